
/- Nets as data: agents, ports, wires. No program in it. -/
import Derived.Test.YtjpaeopdljfjpaaGreatShort
import Derived.Test.YtjpaeopdljfjpaaGreatVV
import Derived.Test.YtjpaeopdljfjpaaGreatValid
set_option linter.unusedSimpArgs false
set_option linter.unusedVariables false
set_option linter.unusedSectionVars false
namespace Go.Tr
open Go Go.RowKit
abbrev iO:U:=.pair (.int .i64) (.int .i64)
abbrev bf:U:=.pair (.int .i64) (.pair (.int .i64) (.pair (.int .i64) (.pair (.sl (.int .i64)) (.sl iO))))
abbrev fG:U:=.sl bf
abbrev aO:=Int×Int
abbrev ah:=Int×Int×Int×List Int×List aO
def au(xs:List ah)(i:Int):ah:=elt (dflt bf) xs i
abbrev ah.kind(a:ah):Int:=a.1
abbrev ah.level(a:ah):Int:=a.2.1
abbrev ah.value(a:ah):Int:=a.2.2.1
abbrev ah.data(a:ah):List Int:=a.2.2.2.1
abbrev ah.aD(a:ah):List aO:=a.2.2.2.2
def aJ(xs:List ah)(p:aO):aO:=elt (dflt iO) (au xs p.1).aD p.2
def aN(xs:List ah)(p q:aO):List ah:=xs.set p.1.toNat ((au xs p.1).1,(au xs p.1).2.1,(au xs p.1).2.2.1,(au xs p.1).2.2.2.1,(au xs p.1).2.2.2.2.set p.2.toNat q)
def bF(xs:List ah)(p q:aO):List ah:=aN (aN xs p q) q p
def aj(xs:List ah)(p:aO):Prop:=0≤p.1∧p.1<(xs.length:Nat)∧0≤p.2∧p.2<((au xs p.1).aD.length:Nat)
theorem dY(xs:List ah)(p q:aO):(aN xs p q).length=xs.length:=by unfold aN;simp
theorem uT{xs:List ah}{k:Nat}{y:ah}{i:Int}:au (xs.set k y) i=if k=i.toNat∧k<xs.length then y else au xs i:=by
 unfold au elt;rw[qC,qC,List.getElem?_set]
 by_cases h:k=i.toNat
 ·subst h
  by_cases h2:i.toNat<xs.length
  ·simp[h2]
  ·simp[h2]
 ·simp[h]
theorem dJ(xs:List ah)(p q:aO)(i:Int):au (aN xs p q) i=if p.1.toNat=i.toNat∧p.1.toNat<xs.length then((au xs p.1).1,(au xs p.1).2.1,(au xs p.1).2.2.1,(au xs p.1).2.2.2.1,(au xs p.1).2.2.2.2.set p.2.toNat q)else au xs i:=uT
theorem uS{xs:List ah}{i j:Int}(h:i.toNat=j.toNat):au xs i=au xs j:=by unfold au elt;rw[h]
theorem tJ(xs:List ah)(p q:aO)(i:Int):(au (aN xs p q) i).aD.length=(au xs i).aD.length:=by
 rw[dJ];split
 ·rename_i h;rw[uS h.1.symm];simp[ah.aD]
 ·rfl
theorem aj.set{xs:List ah}{p q r:aO}(h:aj xs r):aj (aN xs p q) r:=by
 unfold aj at h ⊢;rw[dY,tJ];exact h
theorem aj.link{xs:List ah}{p q r:aO}(h:aj xs r):aj (bF xs p q) r:=h.set.set
theorem jK(xs:List ah)(p q:aO):(bF xs p q).length=xs.length:=by unfold bF;rw[dY,dY]
def eD(xs:List ah)(old now:aO):List ah:=bF xs (aJ xs old) now
def eU(xs:List ah)(x y:aO):List ah:=bif (aJ xs x).1==y.1&&(aJ xs x).2==y.2 then xs else bF xs (aJ xs x) (aJ xs y)
def bJ(kind level value:Int)(data:List Int)(n:Nat):ah:=(kind,level,value,data,List.replicate n (0,0))
def ER(kv:List (Int×Bool))(ks:List Int):List (Int×Bool):=ks.foldl (fun kv k=>eX kv k true) kv
theorem wB{k:Nat}(h:k<1000000000):IntKind.i64.wrap ((k:Int)+1)=((k+1:Nat):Int):=JF (by omega)
def fO(xs:List ah):Prop:=xs.length≤1048576∧∀i:Nat,(au xs i).data.length≤1048576∧(au xs i).aD.length≤1048576
def GY(c:Int)(x y:ah):Bool:=bif (bif c==6 then y.kind==10 else false)then decide ((y.data.length:Int)≤x.value)else false
def yH(x y:ah):Int×Bool:=
 bif ou x.kind x.level y.kind y.level==2 then(bif GY (om x.kind x.level y.kind y.level) y x then(8,false)else(om x.kind x.level y.kind y.level,ou x.kind x.level y.kind y.level==2))
 else(bif GY (om x.kind x.level y.kind y.level) x y then(8,false)else(om x.kind x.level y.kind y.level,ou x.kind x.level y.kind y.level==2))
def rX(by_:Int)(x:ah):ah:=bif gQ x.kind then(x.1,x.2.1+by_,x.2.2)else x
def yN(by_:Int)(xs:List ah):Bool:=xs.all fun x=> !(gQ x.kind)||decide (x.level+by_≤8)
def gF(by_:Int)(xs:List ah):List ah:=xs.map (rX by_)
def l8(x:Int):Int:=IntKind.i64.wrap (IntKind.i32.wrap x)
def NK(o a b:Int):Int:=
 bif o==1 then l8 (IntKind.i64.wrap (l8 a+l8 b))else bif o==2 then l8 (IntKind.i64.wrap (l8 a-l8 b))else bif o==3 then l8 (IntKind.i64.wrap (l8 a*l8 b))
 else bif o==4 then(bif l8 b==0 then 0 else l8 (IntKind.i64.wrap ((l8 a).tdiv (l8 b))))else bif o==5 then(bif decide (l8 a<l8 b)then 1 else 0)else bif o==6 then(bif l8 a==l8 b then 1 else 0)else 0
def dH(xs:List ah):Prop:=∀p,aj xs p→aj xs (aJ xs p)
theorem Mw{α:Type}{d:α}{xs:List α}{k:Nat}{y:α}{i:Int}:elt d (xs.set k y) i=if k=i.toNat∧k<xs.length then y else elt d xs i:=by
 unfold elt;rw[qC,qC,List.getElem?_set]
 by_cases h:k=i.toNat
 ·subst h
  by_cases h2:i.toNat<xs.length<;>simp[h2]
 ·simp[h]
theorem Mv{α:Type}{d:α}{xs ys:List α}{i:Int}(h:i.toNat<xs.length):elt d (xs++ys) i=elt d xs i:=by
 unfold elt;rw[qC,qC,qM h]
theorem Ki{α:Type}{d y:α}{xs:List α}{i:Int}(h:i.toNat=xs.length):elt d (xs++[y]) i=y:=by
 unfold elt;rw[h,qC];simp
theorem dF{xs ys:List ah}{i:Int}(h:i.toNat<xs.length):au (xs++ys) i=au xs i:=Mv h
theorem sH{y:ah}{xs:List ah}{i:Int}(h:i.toNat=xs.length):au (xs++[y]) i=y:=Ki h
theorem aj.app{xs ys:List ah}{p:aO}(h:aj xs p):aj (xs++ys) p:=by
 obtain⟨h1,h2,h3,h4⟩:=h;refine⟨h1,by rw[qA];omega,h3,?_⟩;rw[dF (by omega)];exact h4
theorem aj.new{k l v:Int}{d:List Int}{n:Nat}{xs:List ah}{s:Int}(h0:0≤s)(h1:s<(n:Nat)):aj (xs++[bJ k l v d n]) ((xs.length:Nat),s):=by
 refine⟨by omega,by rw[qA,qJ];show((xs.length:Nat):Int)<_;omega,h0,?_⟩;rw[sH (by simp)];simpa[bJ,ah.aD]using h1
theorem kQ{xs ys:List ah}{p:aO}(h:p.1.toNat<xs.length):aJ (xs++ys) p=aJ xs p:=by unfold aJ;rw[dF h]
theorem Bw{xs:List ah}{p q r:aO}(hp:aj xs p)(hr:aj xs r):aJ (aN xs p q) r=if p=r then q else aJ xs r:=by
 obtain⟨p1,p2,p3,p4⟩:=hp;obtain⟨r1,r2,r3,r4⟩:=hr;unfold aJ;rw[dJ]
 by_cases h:p.1.toNat=r.1.toNat
 ·have e:p.1=r.1:=by omega
  rw[if_pos ⟨h,by omega⟩];show elt (dflt iO) ((au xs p.1).2.2.2.2.set p.2.toNat q) r.2=_;rw[Mw]
  by_cases h2:p.2.toNat=r.2.toNat
  ·have e2:p.2=r.2:=by omega
   rw[if_pos ⟨h2,by simp only[ah.aD]at p4;omega⟩,if_pos (Prod.ext e e2)]
  ·rw[if_neg (fun hh=>h2 hh.1),if_neg (fun hh=>h2 (by rw[hh])),e]
 ·rw[if_neg (fun hh=>h hh.1),if_neg (fun hh=>h (by rw[hh]))]
theorem iA{xs:List ah}{p q r:aO}(hp:aj xs p)(hq:aj xs q)(hr:aj xs r):aJ (bF xs p q) r=if q=r then p else if p=r then q else aJ xs r:=by
 unfold bF;rw[Bw hq.set hr.set,Bw hp hr]
theorem aj.unset{xs:List ah}{p q r:aO}(h:aj (aN xs p q) r):aj xs r:=by
 unfold aj at h ⊢
 rwa[dY,tJ]at h
theorem aj.unlink{xs:List ah}{p q r:aO}(h:aj (bF xs p q) r):aj xs r:=h.unset.unset
theorem dH.link{xs:List ah}{p q:aO}(h:dH xs)(hp:aj xs p)(hq:aj xs q):dH (bF xs p q):=fun r hr=>by
 have hr':=hr.unlink;rw[iA hp hq hr'];split
 ·exact hp.link
 ·split
  ·exact hq.link
  ·exact(h r hr').link
theorem dH.move{xs:List ah}{p q:aO}(h:dH xs)(hp:aj xs p)(hq:aj xs q):dH (eD xs p q):=h.link (h p hp) hq
theorem aj.move{xs:List ah}{p q r:aO}(h:aj xs r):aj (eD xs p q) r:=h.link
theorem aj.join{xs:List ah}{p q r:aO}(h:aj xs r):aj (eU xs p q) r:=by
 unfold eU;cases ((aJ xs p).1==q.1&&(aJ xs p).2==q.2)with
 |true=>exact h
 |false=>exact h.link
theorem dH.join{xs:List ah}{p q:aO}(h:dH xs)(hp:aj xs p)(hq:aj xs q):dH (eU xs p q):=by
 unfold eU;cases ((aJ xs p).1==q.1&&(aJ xs p).2==q.2)with
 |true=>exact h
 |false=>exact h.link (h p hp) (h q hq)
theorem dH.add{xs:List ah}(h:dH xs)(h0:aj xs (0,0))(k l v:Int)(d:List Int)(n:Nat):dH (xs++[bJ k l v d n]):=fun r hr=>by
 by_cases hlt:r.1.toNat<xs.length
 ·rw[kQ hlt];obtain⟨r1,r2,r3,r4⟩:=hr;rw[dF hlt]at r4;exact(h r ⟨r1,by omega,r3,r4⟩).app
 ·obtain⟨r1,r2,r3,r4⟩:=hr;rw[qA,qJ]at r2;have e:r.1.toNat=xs.length:=by omega
  have hp:aJ (xs++[bJ k l v d n]) r=(0,0):=by
   unfold aJ;rw[sH e]at r4 ⊢;simp only[bJ,ah.aD,List.length_replicate]at r4;unfold elt;rw[qC];simp only[bJ,ah.aD];rw[List.getElem?_replicate];split<;>rfl
  rw[hp];exact h0.app
theorem wV(xs:List ah)(p q:aO):(eD xs p q).length=xs.length:=jK _ _ _
theorem jA{xs:List ah}{p q a b:aO}(hp:aj xs p)(hq:aj xs q)(hn:p≠q):aN (aN xs p a) q b=aN (aN xs q b) p a:=by
 obtain⟨p1,p2,p3,p4⟩:=hp;obtain⟨q1,q2,q3,q4⟩:=hq
 by_cases h:p.1.toNat=q.1.toNat
 ·have e:p.1=q.1:=by omega
  have h2:p.2.toNat≠q.2.toNat:=fun h2=>hn (Prod.ext e (by omega))
  have k1:au (aN xs p a) q.1=((au xs p.1).1,(au xs p.1).2.1,(au xs p.1).2.2.1,(au xs p.1).2.2.2.1,(au xs p.1).2.2.2.2.set p.2.toNat a):=by
   rw[dJ,if_pos ⟨h,by omega⟩]
  have k2:au (aN xs q b) p.1=((au xs q.1).1,(au xs q.1).2.1,(au xs q.1).2.2.1,(au xs q.1).2.2.2.1,(au xs q.1).2.2.2.2.set q.2.toNat b):=by
   rw[dJ,if_pos ⟨h.symm,by omega⟩]
  rw[show aN (aN xs p a) q b=(aN xs p a).set q.1.toNat ((au (aN xs p a) q.1).1,(au (aN xs p a) q.1).2.1,(au (aN xs p a) q.1).2.2.1,(au (aN xs p a) q.1).2.2.2.1,(au (aN xs p a) q.1).2.2.2.2.set q.2.toNat b) from rfl,show aN (aN xs q b) p a=(aN xs q b).set p.1.toNat ((au (aN xs q b) p.1).1,(au (aN xs q b) p.1).2.1,(au (aN xs q b) p.1).2.2.1,(au (aN xs q b) p.1).2.2.2.1,(au (aN xs q b) p.1).2.2.2.2.set p.2.toNat a) from rfl,k1,k2];unfold aN;rw[h,List.set_set,List.set_set,e]
  simp only[];rw[List.set_comm _ _ h2]
 ·have k1:au (aN xs p a) q.1=au xs q.1:=by rw[dJ,if_neg fun hh=>h hh.1]
  have k2:au (aN xs q b) p.1=au xs p.1:=by rw[dJ,if_neg fun hh=>h hh.1.symm]
  rw[show aN (aN xs p a) q b=(aN xs p a).set q.1.toNat ((au (aN xs p a) q.1).1,(au (aN xs p a) q.1).2.1,(au (aN xs p a) q.1).2.2.1,(au (aN xs p a) q.1).2.2.2.1,(au (aN xs p a) q.1).2.2.2.2.set q.2.toNat b) from rfl,show aN (aN xs q b) p a=(aN xs q b).set p.1.toNat ((au (aN xs q b) p.1).1,(au (aN xs q b) p.1).2.1,(au (aN xs q b) p.1).2.2.1,(au (aN xs q b) p.1).2.2.2.1,(au (aN xs q b) p.1).2.2.2.2.set p.2.toNat a) from rfl,k1,k2];unfold aN;rw[List.set_comm _ _ h]
theorem zD{xs:List ah}{p q:aO}(hp:aj xs p)(hq:aj xs q):bF xs p q=bF xs q p:=by
 by_cases h:p=q
 ·rw[h]
 ·unfold bF;exact jA hp hq h
def sU(d:List Int)(i:Int):Int:=elt (dflt (.int .i64)) d i
def iX(xs:List ah)(x y:Int):List ah:=
 bif (au xs y).1==7 then eD (eD (xs++[bJ 8 (au xs y).2.1 (au xs y).2.2.1 [(au xs x).2.2.1] 2]) (y,1) ((xs.length:Nat),0)) (y,2) ((xs.length:Nat),1)
 else eD (xs++[bJ 6 0 (NK (au xs y).2.2.1 (sU (au xs y).2.2.2.1 0) (au xs x).2.2.1) [] 1]) (y,1) ((xs.length:Nat),0)
def ND:ah:=(0,0,0,[],[])
def dL(xs:List ah)(a:Int):List ah:=xs.set a.toNat ND
section
variable {cx:Cx}{β:Nat→Value}{w:World}{R:List cO}
end
end Go.Tr
namespace Go.Tr
open Go Go.RowKit
def qy(x c d:Int)(xs:List ah)(i:Nat):List ah:=bF (bF (xs++[bJ 4 (au xs x).2.1 0 [] 3]) ((xs.length:Nat),1) (c,(i:Nat))) ((xs.length:Nat),2) (d,(i:Nat))
def gJ(x c d:Int)(xs:List ah):Nat→List ah
 |0=>xs
 |k+1=>qy x c d (gJ x c d xs k) (k+1)
def jr(y:Int)(b:Nat)(xs:List ah):Nat→List ah
 |0=>xs
 |k+1=>eD (jr y b xs k) (y,((k:Nat):Int)+1) (((b+k:Nat):Int),0)
def qw(xs:List ah)(y:Int):ah:=bJ (au xs y).1 (au xs y).2.1 (au xs y).2.2.1 (au xs y).2.2.2.1 (au xs y).2.2.2.2.length
def dup2(xs:List ah)(y:Int):List ah:=xs++[qw xs y]++[qw xs y]
def dup3(xs:List ah)(x y:Int):List ah:=gJ x ((xs.length:Nat)) ((xs.length+1:Nat)) (dup2 xs y) ((au xs y).2.2.2.2.length-1)
def Ms(xs:List ah)(x y:Int):List ah:=eD (eD (dup3 xs x y) (x,1) ((xs.length:Nat),0)) (x,2) ((xs.length+1:Nat),0)
def iV(xs:List ah)(x y:Int):List ah:=jr y (xs.length+2) (Ms xs x y) ((au xs y).2.2.2.2.length-1)
theorem FJ(x c d:Int)(xs:List ah)(i:Nat):(qy x c d xs i).length=xs.length+1:=by unfold qy;rw[jK,jK,qA];rfl
theorem mZ(x c d:Int)(xs:List ah):∀k,(gJ x c d xs k).length=xs.length+k
 |0=>rfl
 |k+1=>by unfold gJ;rw[FJ,mZ x c d xs k];omega
theorem A9{x c d:Int}{xs:List ah}{i:Nat}{p:aO}(h:aj xs p):aj (qy x c d xs i) p:=h.app.link.link
theorem jD{x c d:Int}{xs:List ah}{p:aO}(h:aj xs p):∀k,aj (gJ x c d xs k) p
 |0=>h
 |k+1=>A9 (jD h k)
theorem FI{x c d:Int}{xs:List ah}{i:Nat}(h:dH xs)(h0:aj xs (0,0))(hc:aj xs (c,(i:Nat)))(hd:aj xs (d,(i:Nat))):dH (qy x c d xs i):=
 ((h.add h0 4 (au xs x).2.1 0 [] 3).link (aj.new (by decide) (by decide)) hc.app).link (aj.link (aj.new (by decide) (by decide))) hd.app.link
theorem xI{x c d:Int}{xs:List ah}(h:dH xs)(h0:aj xs (0,0)):∀k,(∀i:Nat,i≤k→aj xs (c,(i:Nat))∧aj xs (d,(i:Nat)))→dH (gJ x c d xs k)
 |0,_=>h
 |k+1,hk=>FI (xI h h0 k fun i hi=>hk i (by omega)) (jD h0 k) (jD (hk (k+1) (Nat.le_refl _)).1 k) (jD (hk (k+1) (Nat.le_refl _)).2 k)
theorem lg{y:Int}{b:Nat}{xs:List ah}{p:aO}(h:aj xs p):∀k,aj (jr y b xs k) p
 |0=>h
 |k+1=>(lg h k).move
theorem vB{y:Int}{b:Nat}{xs:List ah}(h:dH xs):∀k,(∀i:Nat,i<k→aj xs (y,((i:Nat):Int)+1)∧aj xs (((b+i:Nat):Int),0))→dH (jr y b xs k)
 |0,_=>h
 |k+1,hk=>(vB h k fun i hi=>hk i (by omega)).move (lg (hk k (by omega)).1 k) (lg (hk k (by omega)).2 k)
theorem nN(xs:List ah)(y:Int):(dup2 xs y).length=xs.length+2:=by unfold dup2;simp
theorem BX{xs:List ah}{y:Int}{p:aO}(h:aj xs p):aj (dup2 xs y) p:=h.app.app
theorem FE{xs:List ah}{y:Int}{i:Int}(h0:0≤i)(h1:i<((au xs y).2.2.2.2.length:Nat)):aj (dup2 xs y) (((xs.length:Nat):Int),i):=(aj.new h0 h1).app
theorem FH{xs:List ah}{y:Int}{i:Int}(h0:0≤i)(h1:i<((au xs y).2.2.2.2.length:Nat)):aj (dup2 xs y) (((xs.length+1:Nat):Int),i):=by
 have:=aj.new (xs:=xs++[qw xs y]) (k:=(au xs y).1) (l:=(au xs y).2.1) (v:=(au xs y).2.2.1) (d:=(au xs y).2.2.2.1) h0 h1;rw[qA,qJ]at this;exact this
theorem Kh{xs:List ah}{y:Int}(h:dH xs)(h0:aj xs (0,0)):dH (dup2 xs y):=(h.add h0 _ _ _ _ _).add h0.app _ _ _ _ _
theorem ze{x:Int}{c d:Int}{xs:List ah}:∀{k i:Nat},i<k→aj (gJ x c d xs k) (((xs.length+i:Nat):Int),0)
 |0,i,h=>by omega
 |k+1,i,h=>by
  by_cases e:i=k
  ·subst e;have h2:=(aj.new (xs:=gJ x c d xs i) (k:=4) (l:=(au (gJ x c d xs i) x).2.1) (v:=0) (d:=[]) (n:=3) (s:=0) (by decide) (by decide)).link (p:=(((gJ x c d xs i).length:Nat),1)) (q:=(c,((i+1:Nat):Int)));have h3:=h2.link (p:=(((gJ x c d xs i).length:Nat),2)) (q:=(d,((i+1:Nat):Int)));rw[mZ]at h3;unfold gJ qy;rw[mZ];exact h3
  ·exact A9 (ze (by omega))
def lK(b:Nat):Nat→aO
 |0=>(((b-1:Nat):Int),0)
 |k+1=>(((b+k:Nat):Int),2)
def sQ(lv:Int)(b:Nat)(xs:List ah):Nat→List ah
 |0=>xs
 |k+1=>bF (sQ lv b xs k++[bJ 3 lv 0 [] 3]) (((b+k:Nat):Int),0) (lK b k)
def DK(x:Int)(b:Nat)(xs:List ah):Nat→List ah
 |0=>xs
 |k+1=>eD (DK x b xs k) (x,((k:Nat):Int)+1) (((b+k:Nat):Int),1)
def gu(xs:List ah)(y i:Int):List ah:=xs++[bJ 12 (au xs y).2.1 (sU (au xs y).2.2.2.1 i) [] 1]
def oM(xs:List ah)(x y:Int):List ah:=
 bif (au xs x).1==6 then eD (gu xs y (bif (au xs x).2.2.1==0 then 1 else 0)) (y,1) ((xs.length:Nat),0)
 else eD (DK x (xs.length+1) (sQ (au xs y).2.1 (xs.length+1) (gu xs y (au xs x).2.2.1) ((au xs x).2.2.2.2.length-1)) ((au xs x).2.2.2.2.length-1)) (y,1) (lK (xs.length+1) ((au xs x).2.2.2.2.length-1))
theorem uZ(lv:Int)(b:Nat)(xs:List ah):∀k,(sQ lv b xs k).length=xs.length+k
 |0=>rfl
 |k+1=>by unfold sQ;rw[jK,qA,uZ lv b xs k];simp;omega
theorem BQ{lv:Int}{b:Nat}{xs:List ah}{p:aO}(h:aj xs p):∀k,aj (sQ lv b xs k) p
 |0=>h
 |k+1=>(BQ h k).app.link
theorem yG{lv:Int}{xs:List ah}{s:Int}(h0:0≤s)(h1:s<3):∀{k i:Nat},i<k→aj (sQ lv xs.length xs k) (((xs.length+i:Nat):Int),s)
 |0,i,h=>by omega
 |k+1,i,h=>by
  by_cases e:i=k
  ·subst e;have:=(aj.new (xs:=sQ lv xs.length xs i) (k:=3) (l:=lv) (v:=0) (d:=[]) (n:=3) h0 (by omega)).link (p:=(((xs.length+i:Nat):Int),0)) (q:=lK xs.length i);rw[uZ]at this;exact this
  ·exact(yG h0 h1 (by omega:i<k)).app.link
theorem GL{lv:Int}{xs:List ah}(hr:aj xs (lK xs.length 0)):∀k,aj (sQ lv xs.length xs k) (lK xs.length k)
 |0=>hr
 |k+1=>yG (by decide) (by decide) (Nat.lt_succ_self k)
theorem GN{lv:Int}{xs:List ah}(h:dH xs)(h0:aj xs (0,0))(hr:aj xs (lK xs.length 0)):∀k,dH (sQ lv xs.length xs k)
 |0=>h
 |k+1=>by
  unfold sQ;have:=aj.new (xs:=sQ lv xs.length xs k) (k:=3) (l:=lv) (v:=0) (d:=[]) (n:=3) (s:=0) (by decide) (by decide);rw[uZ]at this;exact((GN h h0 hr k).add (BQ h0 k) _ _ _ _ _).link this (GL hr k).app
theorem GI(x:Int)(b:Nat)(xs:List ah):∀k,(DK x b xs k).length=xs.length
 |0=>rfl
 |k+1=>by unfold DK;rw[wV,GI x b xs k]
theorem nu{x:Int}{b:Nat}{xs:List ah}{p:aO}(h:aj xs p):∀k,aj (DK x b xs k) p
 |0=>h
 |k+1=>(nu h k).move
theorem GH{x:Int}{b:Nat}{xs:List ah}(h:dH xs):∀k,(∀i:Nat,i<k→aj xs (x,((i:Nat):Int)+1)∧aj xs (((b+i:Nat):Int),1))→dH (DK x b xs k)
 |0,_=>h
 |k+1,hk=>(GH h k fun i hi=>hk i (by omega)).move (nu (hk k (by omega)).1 k) (nu (hk k (by omega)).2 k)
theorem I6(xs:List ah)(y i:Int):(gu xs y i).length=xs.length+1:=by simp[gu]
def fP(bk:List (List ah))(i:Int):List ah:=elt ([]:List ah) bk i
def yh(y:Int)(xs:List ah):Nat→List ah
 |0=>xs
 |k+1=>eD (yh y xs k++[bJ 5 0 0 [] 1]) (y,((k+1:Nat):Int)) (((xs.length+k:Nat):Int),0)
def zi(xs:List ah)(y:Int):List ah:=yh y xs ((au xs y).2.2.2.2.length-1)
theorem yJ(y:Int)(xs:List ah):∀k,(yh y xs k).length=xs.length+k
 |0=>rfl
 |k+1=>by unfold yh;rw[wV,qA,yJ y xs k];simp;omega
theorem Cb{y:Int}{xs:List ah}{p:aO}(h:aj xs p):∀k,aj (yh y xs k) p
 |0=>h
 |k+1=>(Cb h k).app.move
theorem Mx{y:Int}{xs:List ah}(k:Nat):aj (yh y xs k++[bJ 5 0 0 [] 1]) (((xs.length+k:Nat):Int),0):=by
 have:=aj.new (xs:=yh y xs k) (k:=5) (l:=0) (v:=0) (d:=[]) (n:=1) (s:=0) (by decide) (by decide)
 rwa[yJ]at this
theorem Hg{y:Int}{xs:List ah}(h:dH xs)(h0:aj xs (0,0)):∀k,(∀i:Nat,i<k→aj xs (y,((i+1:Nat):Int)))→dH (yh y xs k)
 |0,_=>h
 |k+1,hk=>((Hg h h0 k fun i hi=>hk i (by omega)).add (Cb h0 k) _ _ _ _ _).move (Cb (hk k (by omega)) k).app (Mx k)
def JI(bk:List (List ah)):Prop:=∀i:Nat,(∀j:Nat,0≤(au (fP bk i) j).2.1∧(au (fP bk i) j).2.1≤8)
def gD(b:Int)(a:ah):ah:=(a.1,a.2.1,a.2.2.1,a.2.2.2.1,a.2.2.2.2.map fun p=>(p.1+b,p.2))
def tQ(bk:List (List ah))(xs:List ah)(x:Int):List ah:=gF (au xs x).2.1 (fP bk (au xs x).2.2.1)
def vG(bk:List (List ah))(xs:List ah)(x y:Int):List ah:=
 bF (xs++((tQ bk xs x).drop 1).map (gD ((xs.length:Nat)-1))) (y,0) ((aJ (tQ bk xs x) (0,0)).1+((xs.length:Nat)-1),(aJ (tQ bk xs x) (0,0)).2)
def nD(bk:List (List ah))(xs:List ah)(c x y:Int):List ah:=
 bif c==1 then eU (eU xs (x,1) (y,1)) (x,2) (y,2)else bif c==2 then eU (eU xs (x,1) (y,1)) (x,2) (y,2)
 else bif c==3 then iV xs x y else bif c==4 then zi xs y else bif c==5 then iX xs x y else bif c==6 then oM xs x y else bif c==7 then vG bk xs x y else xs
def lS(c x y:Int):List Int:=bif c==7 then[x]else[x,y]
structure IntPre(xs:List ah)(c x y:Int):Prop where
 x0:0≤x∧x<(xs.length:Nat)
 y0:0≤y∧y<(xs.length:Nat)
 c12:c=1∨c=2→aj xs (x,1)∧aj xs (x,2)∧aj xs (y,1)∧aj xs (y,2)
 c3:c=3→aj xs (x,1)∧aj xs (x,2)
 px:0<(au xs x).2.2.2.2.length∧(au xs x).2.2.2.2.length≤1000
 py:0<(au xs y).2.2.2.2.length∧(au xs y).2.2.2.2.length≤1000
 dy:(au xs y).2.2.2.1.length≤1000000
 c5:c=5→aj xs (y,1)∧((au xs y).1=7→aj xs (y,2))∧((au xs y).1≠7→0<(au xs y).2.2.2.1.length)
 c6:c=6→aj xs (y,1)∧((au xs x).1=6→(au xs y).2.2.2.1.length=2)∧((au xs x).1≠6→0≤(au xs x).2.2.1∧(au xs x).2.2.1<((au xs y).2.2.2.1.length:Nat))
def yg(lv x:Int)(b:Nat)(xs:List ah):Nat→List ah
 |0=>xs
 |k+1=>eD (bF (yg lv x b xs k++[bJ 3 lv 0 [] 3]) (lK b k) (((b+k:Nat):Int),0)) (x,((k+1:Nat):Int)) (((b+k:Nat):Int),1)
def vk(xs:List ah)(x y:Int):List ah:=
 bif (au xs y).1==11 then eD (gu xs y (bif (au xs x).2.2.1==0 then 1 else 0)) (y,1) ((xs.length:Nat),0)
 else eD (yg (au xs y).2.1 x (xs.length+1) (gu xs y (au xs x).2.2.1) ((au xs x).2.2.2.2.length-1)) (y,1) (lK (xs.length+1) ((au xs x).2.2.2.2.length-1))
theorem vg(lv x:Int)(b:Nat)(xs:List ah):∀k,(yg lv x b xs k).length=xs.length+k
 |0=>rfl
 |k+1=>by unfold yg;rw[wV,jK,qA,vg lv x b xs k];simp;omega
theorem FB{lv x:Int}{b:Nat}{xs:List ah}{p:aO}(h:aj xs p):∀k,aj (yg lv x b xs k) p
 |0=>h
 |k+1=>(FB h k).app.link.move
theorem GV{lv x:Int}{xs:List ah}{s:Int}(h0:0≤s)(h1:s<3):∀{k i:Nat},i<k→aj (yg lv x xs.length xs k) (((xs.length+i:Nat):Int),s)
 |0,i,h=>by omega
 |k+1,i,h=>by
  by_cases e:i=k
  ·subst e;have:=(aj.new (xs:=yg lv x xs.length xs i) (k:=3) (l:=lv) (v:=0) (d:=[]) (n:=3) h0 (by omega));rw[vg]at this;exact this.link.move
  ·exact(GV h0 h1 (by omega:i<k)).app.link.move
theorem J4{lv x:Int}{xs:List ah}(hr:aj xs (lK xs.length 0)):∀k,aj (yg lv x xs.length xs k) (lK xs.length k)
 |0=>hr
 |k+1=>GV (by decide) (by decide) (Nat.lt_succ_self k)
def sI(lab c d:Int)(xs:List ah)(i:Nat):List ah:=bF (bF (xs++[bJ 4 lab 0 [] 3]) ((xs.length:Nat),1) (c,(i:Nat))) ((xs.length:Nat),2) (d,(i:Nat))
def bL(lab c d:Int)(xs:List ah):Nat→List ah
 |0=>xs
 |k+1=>sI lab c d (bL lab c d xs k) (k+1)
theorem Eo(xs:List ah)(p q:aO)(i:Int):(au (bF xs p q) i).2.1=(au xs i).2.1:=by
 unfold bF
 have h:∀(xs:List ah) (p q:aO),(au (aN xs p q) i).2.1=(au xs i).2.1:=fun xs p q=>by
  rw[dJ];split
  ·rename_i h;rw[uS h.1.symm]
  ·rfl
 rw[h,h]
theorem kZ{x c d:Int}{xs:List ah}(hx:x.toNat<xs.length):∀k,bL (au xs x).2.1 c d xs k=gJ x c d xs k∧(au (gJ x c d xs k) x).2.1=(au xs x).2.1
 |0=>⟨rfl,rfl⟩
 |k+1=>by
  obtain⟨h1,h2⟩:=kZ hx k (c:=c) (d:=d);refine⟨?_,?_⟩
  ·unfold bL gJ sI qy;rw[h1,h2]
  ·unfold gJ qy;rw[Eo,Eo,dF (by rw[mZ];omega),h2]
def Ox(lv b:Int)(t:List ah)(k:Nat):List ah:=(((gF lv t).drop 1).take k).map (gD b)
def Cc(t:List ah)(lv:Int)(xs:List ah)(y:Int):List ah:=
 bF (xs++Ox lv ((xs.length:Nat)-1) t (t.length-1)) (((xs.length:Nat)-1)+(aJ t (0,0)).1,(aJ t (0,0)).2) (y,0)
def BS(x y:ah):Bool:=bif (bif x.1==9 then y.1==10 else false)then decide ((y.2.2.2.1.length:Int)≤x.2.2.1)else false
def Mk(x y:ah):Bool:=bif (bif x.1==10 then y.1==9 else false)then decide ((x.2.2.2.1.length:Int)≤y.2.2.1)else false
def J5(x y:ah):Int:=bif BS x y then 8 else bif Mk x y then 8 else om x.1 x.2.1 y.1 y.2.1
def oQ(xs:List ah)(a b:Int):Int×Int:=bif ou (au xs a).1 (au xs a).2.1 (au xs b).1 (au xs b).2.1==2 then(b,a)else(a,b)
def rE(bk:List (List ah))(xs:List ah)(c x y:Int):List ah:=
 bif c==1 then eU (eU xs (x,1) (y,1)) (x,2) (y,2)else bif c==2 then eU (eU xs (x,1) (y,1)) (x,2) (y,2)
 else bif c==3 then iV xs x y else bif c==4 then zi xs y else bif c==5 then iX xs x y else bif c==6 then vk xs x y else bif c==7 then Cc (fP bk (au xs x).2.2.1) (au xs x).2.1 xs y else xs
def Ke(bk:List (List ah))(xs:List ah)(c x y:Int):List ah:=bif c==7 then dL (rE bk xs c x y) x else dL (dL (rE bk xs c x y) x) y
structure Ma(xs:List ah)(c x y:Int):Prop extends IntPre xs c x y where
 k5:c=5→(au xs y).1=7∨(au xs y).1=8
 k6:c=6→((au xs y).1=11→(au xs y).2.2.2.1.length=2)∧((au xs y).1≠11→0≤(au xs x).2.2.1∧(au xs x).2.2.1<((au xs y).2.2.2.1.length:Nat)∧(au xs x).1=9)
theorem uo(xs:List ah)(a:Int):(dL xs a).length=xs.length:=List.length_set
section
variable {b:Int}{t:List ah}
end
end Go.Tr
namespace Go.Tr
open Go Go.RowKit
def gT(L:aO→Prop)(xs:List ah):Prop:=∀p,L p→aj xs p∧L (aJ xs p)∧aJ xs (aJ xs p)=p∧aJ xs p≠p
theorem gT.congr{L M:aO→Prop}{xs:List ah}(h:gT L xs)(e:∀p,M p↔L p):gT M xs:=fun p hp=>by
 obtain⟨h1,h2,h3⟩:=h p ((e p).1 hp);exact⟨h1,(e _).2 h2,h3⟩
theorem gT.cut{L:aO→Prop}{xs:List ah}(h:gT L xs){a:aO}(ha:L a):gT (fun p=>L p∧p≠a∧p≠aJ xs a) xs:=fun p ⟨hp,h1,h2⟩=>by
 obtain⟨k1,k2,k3,k4⟩:=h p hp;refine⟨k1,⟨k2,fun e=>h2 (by rw[←e,k3]),fun e=>h1 ?_⟩,k3,k4⟩;have:=congrArg (aJ xs) e;rw[k3,(h a ha).2.2.1]at this;exact this
theorem bX{p q:aO}(h1:p.1=q.1)(h2:p.2=q.2):p=q:=by cases p;cases q;simp_all
theorem gT.link{L:aO→Prop}{xs:List ah}(h:gT L xs){p q:aO}(hp:aj xs p)(hq:aj xs q)(np:¬L p)(nq:¬L q)(hpq:p≠q):gT (fun r=>L r∨r=p∨r=q) (bF xs p q):=fun r hr=>by
 have key:∀s,L s→aj xs s∧s≠p∧s≠q:=fun s hs=>⟨(h s hs).1,fun e=>np (e▸hs),fun e=>nq (e▸hs)⟩
 rcases hr with hr|rfl|rfl
 ·obtain⟨h1,h2,h3,h5⟩:=h r hr;obtain⟨_,n1,n2⟩:=key r hr;obtain⟨h4,n3,n4⟩:=key _ h2;have e1:aJ (bF xs p q) r=aJ xs r:=by rw[iA hp hq h1,if_neg n2.symm,if_neg n1.symm]
  refine⟨h1.link,?_,?_,?_⟩
  ·rw[e1];exact .inl h2
  ·rw[e1,iA hp hq h4,if_neg n4.symm,if_neg n3.symm,h3]
  ·rw[e1];exact h5
 ·have e1:aJ (bF xs r q) r=q:=by rw[iA hp hq hp,if_neg hpq.symm,if_pos rfl]
  have e2:aJ (bF xs r q) q=r:=by rw[iA hp hq hq,if_pos rfl]
  exact⟨hp.link,by rw[e1];exact .inr (.inr rfl),by rw[e1,e2],by rw[e1];exact hpq.symm⟩
 ·have e1:aJ (bF xs p r) r=p:=by rw[iA hp hq hq,if_pos rfl]
  have e2:aJ (bF xs p r) p=r:=by rw[iA hp hq hp,if_neg hpq.symm,if_pos rfl]
  exact⟨hq.link,by rw[e1];exact .inr (.inl rfl),by rw[e1,e2],by rw[e1];exact hpq⟩
theorem gT.move{L:aO→Prop}{xs:List ah}(h:gT L xs){old now:aO}(ho:L old)(hn:aj xs now)(nn:¬L now):gT (fun r=>(L r∧r≠old)∨r=now) (eD xs old now):=by
 obtain⟨h1,h2,h3,h4⟩:=h old ho;have hne:aJ xs old≠now:=fun e=>nn (e▸h2)
 have:=(h.cut ho).link (p:=aJ xs old) (q:=now) (h _ h2).1 hn (fun e=>e.2.2 rfl) (fun e=>nn e.1) hne;refine this.congr fun r=> ?_
 constructor
 ·rintro(⟨k1,k2⟩|rfl)
  ·by_cases e:r=aJ xs old
   ·exact .inr (.inl e)
   ·exact .inl ⟨k1,k2,e⟩
  ·exact .inr (.inr rfl)
 ·rintro(⟨k1,k2,k3⟩|rfl|rfl)
  ·exact .inl ⟨k1,k2⟩
  ·exact .inl ⟨h2,h4⟩
  ·exact .inr rfl
theorem gT.join{L:aO→Prop}{xs:List ah}(h:gT L xs){x y:aO}(hx:L x)(hy:L y)(hxy:x≠y):gT (fun r=>L r∧r≠x∧r≠y) (eU xs x y):=by
 obtain⟨h1,h2,h3,h4⟩:=h x hx;obtain⟨k1,k2,k3,k4⟩:=h y hy;unfold eU
 by_cases e:aJ xs x=y
 ·rw[show((aJ xs x).1==y.1&&(aJ xs x).2==y.2)=true by rw[e];simp];refine(h.cut hx).congr fun r=> ?_
  rw[e]
 ·rw[show((aJ xs x).1==y.1&&(aJ xs x).2==y.2)=false by
   cases hb:((aJ xs x).1==y.1&&(aJ xs x).2==y.2)with
   |false=>rfl
   |true=>
    simp only[qD,beq_iff_eq]at hb;exact absurd (bX hb.1 hb.2) e]
  rw[qH];have hyx:aJ xs y≠x:=fun h=>e (by rw[←h,k3])
  have hpp:aJ xs x≠aJ xs y:=fun h=>hxy (by rw[←h3,h,k3])
  have c1:=h.cut hx;have hy':L y∧y≠x∧y≠aJ xs x:=⟨hy,hxy.symm,fun h=>e h.symm⟩;have c2:=c1.cut (a:=y) hy';have:=c2.link (p:=aJ xs x) (q:=aJ xs y) (h _ h2).1 (h _ k2).1 (fun h=>h.1.2.2 rfl) (fun h=>h.2.2 rfl) hpp;refine this.congr fun r=> ?_
  constructor
  ·rintro⟨q1,q2,q3⟩
   by_cases e1:r=aJ xs x
   ·exact .inr (.inl e1)
   by_cases e2:r=aJ xs y
   ·exact .inr (.inr e2)
   ·exact .inl ⟨⟨q1,q2,e1⟩,q3,e2⟩
  ·rintro(⟨⟨q1,q2,q3⟩,q4,q5⟩|rfl|rfl)
   ·exact⟨q1,q2,q4⟩
   ·exact⟨h2,h4,e⟩
   ·exact⟨k2,hyx,k4⟩
theorem gT.app{L:aO→Prop}{xs:List ah}(h:gT L xs)(zs:List ah):gT L (xs++zs):=fun p hp=>by
 obtain⟨h1,h2,h3,h4⟩:=h p hp;have lt:∀{q:aO},aj xs q→q.1.toNat<xs.length:=fun {q} hq=>by have:=hq.1;have:=hq.2.1;omega
 have e1:=kQ (ys:=zs) (lt h1);exact⟨h1.app,by rw[e1];exact h2,by rw[e1,kQ (lt (h _ h2).1),h3],by rw[e1];exact h4⟩
def Agree(D:Int→Prop)(xs ys:List ah):Prop:=xs.length=ys.length∧∀i:Int,0≤i→i<(xs.length:Nat)→¬D i→au xs i=au ys i
theorem Agree.port{D:Int→Prop}{xs ys:List ah}(h:Agree D xs ys){p:aO}(hp:aj xs p)(hd:¬D p.1):aj ys p∧aJ ys p=aJ xs p:=by
 obtain⟨p1,p2,p3,p4⟩:=hp;have e:=h.2 p.1 p1 p2 hd;exact⟨⟨p1,by rw[←h.1];exact p2,p3,by rw[←e];exact p4⟩,by unfold aJ;rw[e]⟩
theorem Agree.setPort{D:Int→Prop}{xs ys:List ah}(h:Agree D xs ys){p:aO}(q:aO)(hp:aj xs p)(hd:¬D p.1):Agree D (aN xs p q) (aN ys p q):=by
 refine⟨by rw[dY,dY];exact h.1,fun i h0 h1 hi=> ?_⟩;rw[dY]at h1;rw[dJ,dJ,h.2 p.1 hp.1 hp.2.1 hd,h.2 i h0 h1 hi,h.1]
theorem Agree.link{D:Int→Prop}{xs ys:List ah}(h:Agree D xs ys){p q:aO}(hp:aj xs p)(hq:aj xs q)(dp:¬D p.1)(dq:¬D q.1):Agree D (bF xs p q) (bF ys p q):=(h.setPort q hp dp).setPort p hq.set dq
theorem Agree.app{D:Int→Prop}{xs ys:List ah}(h:Agree D xs ys)(zs:List ah):Agree D (xs++zs) (ys++zs):=by
 refine⟨by rw[qA,qA,h.1],fun i h0 h1 hi=> ?_⟩;rw[qA]at h1
 by_cases hl:i<(xs.length:Nat)
 ·rw[dF (by omega),dF (by rw[←h.1];omega)];exact h.2 i h0 hl hi
 ·have:∀ws:List ah,ws.length=xs.length→au (ws++zs) i=zs.getD (i.toNat-xs.length) (dflt bf):=fun ws hw=>by
   unfold au elt;rw[qC,qL (by omega),hw,qC]
  rw[this xs rfl,this ys h.1.symm]
theorem Agree.mono{D E:Int→Prop}{xs ys:List ah}(h:Agree D xs ys)(k:∀i,D i→E i):Agree E xs ys:=⟨h.1,fun i h0 h1 hi=>h.2 i h0 h1 fun hd=>hi (k i hd)⟩
theorem Agree.drop{D:Int→Prop}{xs ys:List ah}(h:Agree D xs ys){a:Int}(h0:0≤a)(hd:D a):Agree D xs (dL ys a):=by
 refine⟨by unfold dL;rw[List.length_set];exact h.1,fun i i0 i1 hi=> ?_⟩;unfold dL;rw[uT,if_neg (fun e=>hi (by(have:i=a:=by omega);rw[this];exact hd))];exact h.2 i i0 i1 hi
structure pO(D:Int→Prop)(L:aO→Prop)(xs ys:List ah):Prop where
 ag:Agree D xs ys
 wi:gT L xs
 al:∀p,L p→¬D p.1
section
variable {D:Int→Prop}{L:aO→Prop}{xs ys:List ah}
theorem pO.peer(h:pO D L xs ys){p:aO}(hp:L p):aJ ys p=aJ xs p:=(h.ag.port (h.wi p hp).1 (h.al p hp)).2
theorem pO.move(h:pO D L xs ys){old now:aO}(ho:L old)(hn:aj xs now)(nn:¬L now)(dn:¬D now.1):pO D (fun r=>(L r∧r≠old)∨r=now) (eD xs old now) (eD ys old now):=by
 refine⟨?_,h.wi.move ho hn nn,fun p hp=> ?_⟩
 ·unfold eD;rw[h.peer ho];exact h.ag.link (h.wi _ (h.wi _ ho).2.1).1 hn (h.al _ (h.wi _ ho).2.1) dn
 ·rcases hp with hp|rfl
  ·exact h.al p hp.1
  ·exact dn
theorem pO.join(h:pO D L xs ys){x y:aO}(hx:L x)(hy:L y)(hxy:x≠y):pO D (fun r=>L r∧r≠x∧r≠y) (eU xs x y) (eU ys x y):=by
 refine⟨?_,h.wi.join hx hy hxy,fun p hp=>h.al p hp.1⟩;unfold eU;rw[h.peer hx,h.peer hy];cases ((aJ xs x).1==y.1&&(aJ xs x).2==y.2)with
 |true=>exact h.ag
 |false=>exact h.ag.link (h.wi _ (h.wi _ hx).2.1).1 (h.wi _ (h.wi _ hy).2.1).1 (h.al _ (h.wi _ hx).2.1) (h.al _ (h.wi _ hy).2.1)
theorem pO.link(h:pO D L xs ys){p q:aO}(hp:aj xs p)(hq:aj xs q)(np:¬L p)(nq:¬L q)(hpq:p≠q)(dp:¬D p.1)(dq:¬D q.1):pO D (fun r=>L r∨r=p∨r=q) (bF xs p q) (bF ys p q):=by
 refine⟨h.ag.link hp hq dp dq,h.wi.link hp hq np nq hpq,fun r hr=> ?_⟩;rcases hr with hr|rfl|rfl
 ·exact h.al r hr
 ·exact dp
 ·exact dq
theorem pO.app(h:pO D L xs ys)(zs:List ah):pO D L (xs++zs) (ys++zs):=⟨h.ag.app zs,h.wi.app zs,h.al⟩
theorem pO.congr(h:pO D L xs ys){M:aO→Prop}(e:∀p,M p↔L p):pO D M xs ys:=⟨h.ag,h.wi.congr e,fun p hp=>h.al p ((e p).1 hp)⟩
theorem pO.cut(h:pO D L xs ys){a:aO}(ha:L a):pO D (fun p=>L p∧p≠a∧p≠aJ xs a) xs ys:=⟨h.ag,h.wi.cut ha,fun p hp=>h.al p hp.1⟩
theorem pO.gone(h:pO D L xs ys)(a:Int)(h0:0≤a)(ha:∀p,L p→p.1≠a):pO (fun i=>D i∨i=a) L xs (dL ys a):=
 ⟨(h.ag.mono fun i hi=>.inl hi).drop h0 (.inr rfl),h.wi,fun p hp e=>e.elim (h.al p hp) (ha p hp)⟩
end
end Go.Tr
namespace Go.Tr
open Go Go.RowKit
def Live(D:Int→Prop)(xs:List ah):aO→Prop:=fun p=>aj xs p∧¬D p.1
def St(D:Int→Prop)(xs ys:List ah):Prop:=pO D (Live D xs) xs ys
theorem aj.gW{xs:List ah}{p q r:aO}:aj (bF xs p q) r↔aj xs r:=⟨aj.unlink,aj.link⟩
theorem aj.gX{xs:List ah}{p q r:aO}:aj (eD xs p q) r↔aj xs r:=aj.gW
theorem aj.Eh{xs:List ah}{p q r:aO}:aj (eU xs p q) r↔aj xs r:=by
 unfold eU;cases ((aJ xs p).1==q.1&&(aJ xs p).2==q.2)with
 |true=>exact Iff.rfl
 |false=>exact aj.gW
theorem aj.bS{xs:List ah}{a:ah}{r:aO}:aj (xs++[a]) r↔aj xs r∨(r.1=(xs.length:Nat)∧0≤r.2∧r.2<(a.aD.length:Nat)):=by
 constructor
 ·rintro⟨h1,h2,h3,h4⟩;rw[qA,qJ]at h2
  by_cases hl:r.1.toNat<xs.length
  ·rw[dF hl]at h4;exact .inl ⟨h1,by omega,h3,h4⟩
  ·have e:r.1.toNat=xs.length:=by omega
   rw[sH e]at h4;exact .inr ⟨by omega,h3,h4⟩
 ·rintro(h|⟨h1,h2,h3⟩)
  ·exact h.app
  ·refine⟨by omega,by rw[qA,qJ];omega,h2,?_⟩;rw[sH (by omega)];exact h3
structure kY(D:Int→Prop)(xs:List ah)(x y:Int):Prop where
 ne:x≠y
 lx:¬D x
 ly:¬D y
 px:aj xs (x,0)
 py:aj xs (y,0)
 w:aJ xs (x,0)=(y,0)
section
variable {D:Int→Prop}{xs ys:List ah}{x y:Int}
theorem St.open_(h:St D xs ys)(k:kY D xs x y):pO D (fun p=>(aj xs p∧¬D p.1)∧p≠(x,0)∧p≠(y,0)) xs ys:=by
 have:=h.cut (a:=(x,0)) ⟨k.px,k.lx⟩;rw[k.w]at this;exact this
theorem bN{a b s t:Int}(h:a≠b∨s≠t):((a,s):aO)≠(b,t):=fun e=>by
 injection e with e1 e2
 rcases h with h|h
 ·exact h e1
 ·exact h e2
theorem St.joins(h:St D xs ys)(k:kY D xs x y)(hx:(au xs x).2.2.2.2.length=3)(hy:(au xs y).2.2.2.2.length=3):
  St (fun i=>D i∨i=x∨i=y) (eU (eU xs (x,1) (y,1)) (x,2) (y,2)) (dL (dL (eU (eU ys (x,1) (y,1)) (x,2) (y,2)) x) y):=by
 have inx:∀s:Int,0≤s→s<3→aj xs (x,s):=fun s h0 h1=>⟨k.px.1,k.px.2.1,h0,by show s<((au xs x).2.2.2.2.length:Nat);omega⟩
 have iny:∀s:Int,0≤s→s<3→aj xs (y,s):=fun s h0 h1=>⟨k.py.1,k.py.2.1,h0,by show s<((au xs y).2.2.2.2.length:Nat);omega⟩
 have s0:=h.open_ k;have s1:=s0.join (x:=(x,1)) (y:=(y,1)) ⟨⟨inx 1 (by decide) (by decide),k.lx⟩,bN (.inr (by decide)),bN (.inl k.ne)⟩ ⟨⟨iny 1 (by decide) (by decide),k.ly⟩,bN (.inl k.ne.symm),bN (.inr (by decide))⟩ (bN (.inl k.ne));have s2:=s1.join (x:=(x,2)) (y:=(y,2)) ⟨⟨⟨inx 2 (by decide) (by decide),k.lx⟩,bN (.inr (by decide)),bN (.inl k.ne)⟩,bN (.inr (by decide)),bN (.inl k.ne)⟩ ⟨⟨⟨iny 2 (by decide) (by decide),k.ly⟩,bN (.inl k.ne.symm),bN (.inr (by decide))⟩,bN (.inl k.ne.symm),bN (.inr (by decide))⟩ (bN (.inl k.ne))
 have key:∀p:aO,Live (fun i=>D i∨i=x∨i=y) (eU (eU xs (x,1) (y,1)) (x,2) (y,2)) p↔((((aj xs p∧¬D p.1)∧p≠(x,0)∧p≠(y,0))∧p≠(x,1)∧p≠(y,1))∧p≠(x,2)∧p≠(y,2)):=fun p=>by
  unfold Live;rw[aj.Eh,aj.Eh];constructor
  ·rintro⟨h1,h2⟩;have h3:p.1≠x:=fun e=>h2 (.inr (.inl e))
   have h4:p.1≠y:=fun e=>h2 (.inr (.inr e))
   have nx:∀s,p≠(x,s):=fun s e=>h3 (by rw[e])
   have ny:∀s,p≠(y,s):=fun s e=>h4 (by rw[e])
   exact⟨⟨⟨⟨h1,fun e=>h2 (.inl e)⟩,nx 0,ny 0⟩,nx 1,ny 1⟩,nx 2,ny 2⟩
  ·rintro⟨⟨⟨⟨h1,h2⟩,x0,y0⟩,x1,y1⟩,x2,y2⟩;refine⟨h1,fun e=> ?_⟩;obtain⟨q1,q2,q3,q4⟩:=h1;rcases e with e|e|e
   ·exact h2 e
   ·rw[e]at q4;have q5:p.2<3:=by(have:p.2<((au xs x).2.2.2.2.length:Nat):=q4);omega
    have:p.2=0∨p.2=1∨p.2=2:=by omega
    rcases this with e2|e2|e2
    ·exact x0 (bX e e2)
    ·exact x1 (bX e e2)
    ·exact x2 (bX e e2)
   ·rw[e]at q4;have q5:p.2<3:=by(have:p.2<((au xs y).2.2.2.2.length:Nat):=q4);omega
    have:p.2=0∨p.2=1∨p.2=2:=by omega
    rcases this with e2|e2|e2
    ·exact y0 (bX e e2)
    ·exact y1 (bX e e2)
    ·exact y2 (bX e e2)
 have s3:=s2.congr key;have s4:=(s3.gone x k.px.1 fun p hp e=>hp.2 (.inr (.inl e))).gone y k.py.1 fun p hp e=>hp.2 (.inr (.inr e))
 exact⟨s4.ag.mono fun i hi=>by rcases hi with(hi|hi)|hi<;>simp_all,s4.wi,fun p hp=>hp.2⟩
end
end Go.Tr
namespace Go.Tr
open Go Go.RowKit
def SX(D:Int→Prop)(X:aO→Prop)(xs ys:List ah):Prop:=pO D (fun p=>(aj xs p∧¬D p.1)∧¬X p) xs ys
section
variable {D:Int→Prop}{X Y:aO→Prop}{xs ys:List ah}
theorem SX.congr(h:SX D X xs ys)(e:∀p,aj xs p→¬D p.1→(Y p↔X p)):SX D Y xs ys:=pO.congr h fun p=>by
 constructor
 ·rintro⟨⟨h1,h2⟩,h3⟩;exact⟨⟨h1,h2⟩,fun h4=>h3 ((e p h1 h2).2 h4)⟩
 ·rintro⟨⟨h1,h2⟩,h3⟩;exact⟨⟨h1,h2⟩,fun h4=>h3 ((e p h1 h2).1 h4)⟩
theorem SX.add(h:SX D X xs ys)(a:ah):SX D (fun p=>X p∨p.1=(xs.length:Nat)) (xs++[a]) (ys++[a]):=pO.congr (pO.app h [a]) fun p=>by
 rw[aj.bS];constructor
 ·rintro⟨⟨h1,h2⟩,h3⟩;rcases h1 with h1|h1
  ·exact⟨⟨h1,h2⟩,fun h4=>h3 (.inl h4)⟩
  ·exact absurd (.inr h1.1) h3
 ·rintro⟨⟨h1,h2⟩,h3⟩;refine⟨⟨.inl h1,h2⟩,fun h4=> ?_⟩;rcases h4 with h4|h4
  ·exact h3 h4
  ·have:=h1.2.1;omega
theorem SX.move(h:SX D X xs ys){old now:aO}(ho:aj xs old)(od:¬D old.1)(ox:¬X old)(hn:aj xs now)(nd:¬D now.1)(nx:X now):SX D (fun p=>(X p∨p=old)∧p≠now) (eD xs old now) (eD ys old now):=by
 refine pO.congr (pO.move h (old:=old) (now:=now) ⟨⟨ho,od⟩,ox⟩ hn (fun k=>k.2 nx) nd) fun p=> ?_
 rw[aj.gX];constructor
 ·rintro⟨⟨h1,h2⟩,h3⟩
  by_cases e:p=now
  ·exact .inr e
  ·exact .inl ⟨⟨⟨h1,h2⟩,fun k=>h3 ⟨.inl k,e⟩⟩,fun k=>h3 ⟨.inr k,e⟩⟩
 ·rintro(⟨⟨⟨h1,h2⟩,h3⟩,h4⟩|rfl)
  ·exact⟨⟨h1,h2⟩,fun k=>k.1.elim h3 h4⟩
  ·exact⟨⟨hn,nd⟩,fun k=>k.2 rfl⟩
theorem SX.link(h:SX D X xs ys){p q:aO}(hp:aj xs p)(pd:¬D p.1)(px:X p)(hq:aj xs q)(qd:¬D q.1)(qx:X q)(hpq:p≠q):SX D (fun r=>X r∧r≠p∧r≠q) (bF xs p q) (bF ys p q):=by
 refine pO.congr (pO.link h hp hq (fun k=>k.2 px) (fun k=>k.2 qx) hpq pd qd) fun r=> ?_
 rw[aj.gW];constructor
 ·rintro⟨⟨h1,h2⟩,h3⟩
  by_cases e1:r=p
  ·exact .inr (.inl e1)
  by_cases e2:r=q
  ·exact .inr (.inr e2)
  ·exact .inl ⟨⟨h1,h2⟩,fun k=>h3 ⟨k,e1,e2⟩⟩
 ·rintro(⟨⟨h1,h2⟩,h3⟩|rfl|rfl)
  ·exact⟨⟨h1,h2⟩,fun k=>h3 k.1⟩
  ·exact⟨⟨hp,pd⟩,fun k=>k.2.1 rfl⟩
  ·exact⟨⟨hq,qd⟩,fun k=>k.2.2 rfl⟩
theorem SX.start{x y:Int}(h:St D xs ys)(k:kY D xs x y):SX D (fun p=>p=(x,0)∨p=(y,0)) xs ys:=pO.congr (h.open_ k) fun p=>by
 constructor
 ·rintro⟨h1,h3⟩;exact⟨h1,fun e=>h3 (.inl e),fun e=>h3 (.inr e)⟩
 ·rintro⟨h1,h2,h3⟩;exact⟨h1,fun e=>e.elim h2 h3⟩
theorem SX.Ja{x y:Int}(h:SX D X xs ys)(x0:0≤x)(y0:0≤y)(e:∀p,aj xs p→¬D p.1→(X p↔p.1=x∨p.1=y)):St (fun i=>D i∨i=x∨i=y) xs (dL (dL ys x) y):=by
 have s3:pO D (Live (fun i=>D i∨i=x∨i=y) xs) xs ys:=pO.congr h fun p=>by
  unfold Live;constructor
  ·rintro⟨h1,h2⟩;have h3:¬D p.1:=fun k=>h2 (.inl k)
   exact⟨⟨h1,h3⟩,fun k=>h2 (.inr ((e p h1 h3).1 k))⟩
  ·rintro⟨⟨h1,h2⟩,h3⟩;exact⟨h1,fun k=>k.elim h2 fun k=>h3 ((e p h1 h2).2 k)⟩
 have s4:=(s3.gone x x0 fun p hp e=>hp.2 (.inr (.inl e))).gone y y0 fun p hp e=>hp.2 (.inr (.inr e))
 exact⟨s4.ag.mono fun i hi=>by rcases hi with(hi|hi)|hi<;>simp_all,s4.wi,fun p hp=>hp.2⟩
theorem SX.RH{x:Int}(h:SX D X xs ys)(x0:0≤x)(e:∀p,aj xs p→¬D p.1→(X p↔p.1=x)):St (fun i=>D i∨i=x) xs (dL ys x):=by
 have s3:pO D (Live (fun i=>D i∨i=x) xs) xs ys:=pO.congr h fun p=>by
  unfold Live;constructor
  ·rintro⟨h1,h2⟩;have h3:¬D p.1:=fun k=>h2 (.inl k)
   exact⟨⟨h1,h3⟩,fun k=>h2 (.inr ((e p h1 h3).1 k))⟩
  ·rintro⟨⟨h1,h2⟩,h3⟩;exact⟨h1,fun k=>k.elim h2 fun k=>h3 ((e p h1 h2).2 k)⟩
 have s4:=s3.gone x x0 fun p hp e=>hp.2 (.inr e)
 exact⟨s4.ag,s4.wi,fun p hp=>hp.2⟩
theorem SX.len(h:SX D X xs ys):xs.length=ys.length:=h.ag.1
theorem SX.at_(h:SX D X xs ys){i:Int}(h0:0≤i)(h1:i<(xs.length:Nat))(hd:¬D i):au ys i=au xs i:=(h.ag.2 i h0 h1 hd).symm
theorem DY{y:Int}{p:aO}(hlt:p.1.toNat<xs.length):∀{k:Nat},aj (yh y xs k) p→aj xs p
 |0,h=>h
 |k+1,h=>by
  unfold yh at h;rw[aj.gX,aj.bS,yJ]at h;rcases h with h|⟨h,_⟩
  ·exact DY hlt h
  ·omega
theorem Km{x y:Int}(h:St D xs ys)(k:kY D xs x y)(hD:∀i,D i→i<(xs.length:Nat)):∀n:Nat,n≤(au xs y).2.2.2.2.length-1→SX D (fun p=>p=(x,0)∨(p.1=y∧p.2≤(n:Nat))) (yh y xs n) (yh y ys n)
 |0,_=>(SX.start h k).congr fun p hp _=>by
  constructor
  ·rintro(e|⟨e1,e2⟩)
   ·exact .inl e
   ·exact .inr (bX e1 (by have:=hp.2.2.1;show p.2=0;omega))
  ·rintro(e|e)
   ·exact .inl e
   ·exact .inr (by rw[e];exact⟨rfl,Int.le_refl _⟩)
 |n+1,hn=>by
  have ih:=Km h k hD n (by omega);have hl:(yh y xs n).length=xs.length+n:=yJ y xs n;have hyl:=k.py.2.1;have hy0:=k.py.1;have hpy:aj xs (y,((n+1:Nat):Int)):=⟨hy0,hyl,by omega,by show((n+1:Nat):Int)<((au xs y).2.2.2.2.length:Nat);omega⟩;have hin:=Cb (y:=y) hpy n;have s1:=ih.add (bJ 5 0 0 [] 1);have hnew:aj (yh y xs n++[bJ 5 0 0 [] 1]) (((xs.length+n:Nat):Int),0):=aj.bS.2 (.inr ⟨by rw[hl],Int.le_refl _,show(0:Int)<1 by decide⟩)
  have s2:=s1.move (old:=(y,((n+1:Nat):Int))) (now:=(((xs.length+n:Nat):Int),0)) hin.app k.ly (by
   rintro((e|⟨_,e⟩)|e)
   ·exact bN (.inl k.ne.symm) e
   ·have:((n+1:Nat):Int)≤(n:Nat):=e;omega
   ·have:y=((yh y xs n).length:Nat):=e;rw[hl]at this;omega) hnew (fun e=>by have:=hD _ e;show False;have h2:((xs.length+n:Nat):Int)<(xs.length:Nat):=this;omega) (.inr (by rw[hl]))
  have hyx:(yh y ys n++[bJ 5 0 0 [] 1])=yh y ys n++[bJ 5 0 0 [] 1]:=rfl
  have s3:SX D (fun p=>p=(x,0)∨(p.1=y∧p.2≤((n+1:Nat):Int))) (eD (yh y xs n++[bJ 5 0 0 [] 1]) (y,((n+1:Nat):Int)) (((xs.length+n:Nat):Int),0)) (eD (yh y ys n++[bJ 5 0 0 [] 1]) (y,((n+1:Nat):Int)) (((xs.length+n:Nat):Int),0)):=s2.congr fun p hp _=>by
   rw[aj.gX,aj.bS,hl]at hp;rw[hl];constructor
   ·rintro(rfl|⟨e1,e2⟩)
    ·refine⟨.inl (.inl (.inl rfl)),bN (.inl ?_)⟩;have:=k.px.2.1;show x≠((xs.length+n:Nat):Int);have h2:x<(xs.length:Nat):=this;omega
    ·refine⟨?_,fun e=> ?_⟩
     ·by_cases e3:p.2=((n+1:Nat):Int)
      ·exact .inr (bX e1 e3)
      ·exact .inl (.inl (.inr ⟨e1,by omega⟩))
     ·rw[e]at e1;have:((xs.length+n:Nat):Int)=y:=e1;have h2:y<(xs.length:Nat):=hyl;omega
   ·rintro⟨((e|⟨e1,e2⟩)|e)|e,e3⟩
    ·exact .inl e
    ·exact .inr ⟨e1,by omega⟩
    ·rcases hp with hp|⟨q1,q2,q3⟩
     ·have h2:=hp.2.1;rw[hl]at h2;have e':p.1=((xs.length+n:Nat):Int):=e;omega
     ·refine absurd (bX (q:=(((xs.length+n:Nat):Int),0)) e ?_) e3;have:p.2<1:=q3;show p.2=0;omega
    ·exact .inr (by rw[e];exact⟨rfl,Int.le_refl _⟩)
  show SX D _ (yh y xs (n+1)) (yh y ys (n+1));unfold yh;rw[←h.ag.1];exact s3
theorem St.erase{x y:Int}(h:St D xs ys)(k:kY D xs x y)(hD:∀i,D i→i<(xs.length:Nat))(hx:(au xs x).2.2.2.2.length=1):St (fun i=>D i∨i=x∨i=y) (zi xs y) (dL (dL (zi ys y) x) y):=by
 have e:au ys y=au xs y:=(h.ag.2 y k.py.1 k.py.2.1 k.ly).symm;unfold zi;rw[e];have s:=Km h k hD ((au xs y).2.2.2.2.length-1) (Nat.le_refl _);refine s.Ja k.px.1 k.py.1 fun p hp _=> ?_
 have hport:p.1=x∨p.1=y→aj xs p:=fun hc=>by
  have hlt:p.1.toNat<xs.length:=by
   have h1:=k.px.2.1;have h2:=k.py.2.1;have h3:=k.px.1;have h4:=k.py.1
   have g1:x<(xs.length:Nat):=h1;have g2:y<(xs.length:Nat):=h2;have g3:0≤x:=h3;have g4:0≤y:=h4;rcases hc with hc|hc<;>omega
  exact DY hlt hp
 constructor
 ·rintro(rfl|⟨e1,_⟩)
  ·exact .inl rfl
  ·exact .inr e1
 ·intro hc;obtain⟨q1,q2,q3,q4⟩:=hport hc;rcases hc with hc|hc
  ·rw[hc]at q4;have:p.2<((au xs x).2.2.2.2.length:Nat):=q4;exact .inl (bX hc (by show p.2=0;omega))
  ·rw[hc]at q4;have:p.2<((au xs y).2.2.2.2.length:Nat):=q4;exact .inr ⟨hc,by omega⟩
theorem zF{p:aO}(h:aj xs p):p.1.toNat<xs.length:=by have:=h.1;have:=h.2.1;omega
theorem St.operate{x y:Int}(h:St D xs ys)(k:kY D xs x y)(hD:∀i,D i→i<(xs.length:Nat))(hx:(au xs x).2.2.2.2.length=1)(h7:(au xs y).1=7→(au xs y).2.2.2.2.length=3)(h8:(au xs y).1≠7→(au xs y).2.2.2.2.length=2):
  St (fun i=>D i∨i=x∨i=y) (iX xs x y) (dL (dL (iX ys x y) x) y):=by
 have ey:au ys y=au xs y:=(h.ag.2 y k.py.1 k.py.2.1 k.ly).symm;have ex:au ys x=au xs x:=(h.ag.2 x k.px.1 k.px.2.1 k.lx).symm;have hn:¬D (xs.length:Nat):=fun e=>by have:=hD _ e;omega
 have xl:x<(xs.length:Nat):=k.px.2.1;have yl:y<(xs.length:Nat):=k.py.2.1;have iny:∀s:Int,0≤s→s<((au xs y).2.2.2.2.length:Nat)→aj xs (y,s):=fun s h0 h1=>⟨k.py.1,k.py.2.1,h0,h1⟩
 have fin:∀(X:aO→Prop) (a:ah) (zs:List ah),(∀p,aj zs p↔aj (xs++[a]) p)→(∀p,aj (xs++[a]) p→(X p↔(aj xs p∧(p.1=x∨p.1=y))))→∀p,aj zs p→¬D p.1→(X p↔p.1=x∨p.1=y):=fun X a zs hz hX p hp _=>by
  rw[hX p ((hz p).1 hp)];constructor
  ·exact fun e=>e.2
  ·intro e;refine⟨?_,e⟩;rcases aj.bS.1 ((hz p).1 hp)with q|⟨q,_⟩
   ·exact q
   ·rcases e with e|e<;>omega
 unfold iX;rw[ex,ey,←h.ag.1];cases hk:(au xs y).1==7 with
 |true=>
  have h3:=h7 (by simpa using hk);simp only[qG];have i1:=iny 1 (by decide) (by omega);have i2:=iny 2 (by decide) (by omega);have s1:=(SX.start h k).add (bJ 8 (au xs y).2.1 (au xs y).2.2.1 [(au xs x).2.2.1] 2);have n0:aj (xs++[bJ 8 (au xs y).2.1 (au xs y).2.2.1 [(au xs x).2.2.1] 2]) ((xs.length:Nat),0):=aj.bS.2 (.inr ⟨rfl,Int.le_refl _,show(0:Int)<2 by decide⟩);have n1:aj (xs++[bJ 8 (au xs y).2.1 (au xs y).2.2.1 [(au xs x).2.2.1] 2]) ((xs.length:Nat),1):=aj.bS.2 (.inr ⟨rfl,show(0:Int)≤1 by decide,show(1:Int)<2 by decide⟩)
  have s2:=s1.move (old:=(y,1)) (now:=((xs.length:Nat),0)) i1.app k.ly (by
   rintro((e|e)|e)
   ·exact bN (.inl k.ne.symm) e
   ·exact bN (.inr (by decide)) e
   ·have:y=(xs.length:Nat):=e;omega) n0 hn (.inr rfl)
  have s3:=s2.move (old:=(y,2)) (now:=((xs.length:Nat),1)) i2.app.move k.ly (by
   rintro⟨((e|e)|e)|e,_⟩
   ·exact bN (.inl k.ne.symm) e
   ·exact bN (.inr (by decide)) e
   ·have:y=(xs.length:Nat):=e;omega
   ·exact bN (.inr (by decide)) e) n1.move hn ⟨.inl (.inr rfl),bN (.inr (by decide))⟩
  refine s3.Ja k.px.1 k.py.1 (fin _ _ _ (fun p=>by rw[aj.gX,aj.gX]) fun p hp=> ?_)
  have hA:p.1=(xs.length:Nat)→p=(((xs.length:Nat):Int),0)∨p=(((xs.length:Nat):Int),1):=fun e=>by
   rcases aj.bS.1 hp with q|⟨_,q2,q3⟩
   ·have:=q.2.1;omega
   ·have:p.2<2:=q3;have:p.2=0∨p.2=1:=by omega
    rcases this with e2|e2
    ·exact .inl (bX e e2)
    ·exact .inr (bX e e2)
  constructor
  ·rintro⟨(⟨((e|e)|e)|e,e2⟩|e),e3⟩
   ·rw[e];exact⟨k.px,.inl rfl⟩
   ·rw[e];exact⟨k.py,.inr rfl⟩
   ·rcases hA e with e4|e4
    ·exact absurd e4 e2
    ·exact absurd e4 e3
   ·rw[e];exact⟨i1,.inr rfl⟩
   ·rw[e];exact⟨i2,.inr rfl⟩
  ·rintro⟨q,e⟩;have ne:∀s,p≠(((xs.length:Nat):Int),s):=fun s e2=>by have:=q.2.1;rw[e2]at this;have h3:((xs.length:Nat):Int)<(xs.length:Nat):=this;omega
   refine⟨?_,ne 1⟩;obtain⟨q1,q2,q3,q4⟩:=q;rcases e with e|e
   ·rw[e]at q4;have:p.2<((au xs x).2.2.2.2.length:Nat):=q4;exact .inl ⟨.inl (.inl (.inl (bX e (by show p.2=0;omega)))),ne 0⟩
   ·rw[e]at q4;have:p.2<((au xs y).2.2.2.2.length:Nat):=q4;have:p.2=0∨p.2=1∨p.2=2:=by omega
    rcases this with e2|e2|e2
    ·exact .inl ⟨.inl (.inl (.inr (bX e e2))),ne 0⟩
    ·exact .inl ⟨.inr (bX e e2),ne 0⟩
    ·exact .inr (bX e e2)
 |false=>
  have h3:=h8 (by simpa using hk);simp only[qH];have i1:=iny 1 (by decide) (by omega);generalize hv:NK (au xs y).2.2.1 (sU (au xs y).2.2.2.1 0) (au xs x).2.2.1=v;have s1:=(SX.start h k).add (bJ 6 0 v [] 1);have n0:aj (xs++[bJ 6 0 v [] 1]) ((xs.length:Nat),0):=aj.bS.2 (.inr ⟨rfl,Int.le_refl _,show(0:Int)<1 by decide⟩)
  have s2:=s1.move (old:=(y,1)) (now:=((xs.length:Nat),0)) i1.app k.ly (by
   rintro((e|e)|e)
   ·exact bN (.inl k.ne.symm) e
   ·exact bN (.inr (by decide)) e
   ·have:y=(xs.length:Nat):=e;omega) n0 hn (.inr rfl)
  refine s2.Ja k.px.1 k.py.1 (fin _ _ _ (fun p=>by rw[aj.gX]) fun p hp=> ?_)
  have hA:p.1=(xs.length:Nat)→p=(((xs.length:Nat):Int),0):=fun e=>by
   rcases aj.bS.1 hp with q|⟨_,q2,q3⟩
   ·have:=q.2.1;omega
   ·have:p.2<1:=q3;exact bX e (by show p.2=0;omega)
  constructor
  ·rintro⟨((e|e)|e)|e,e2⟩
   ·rw[e];exact⟨k.px,.inl rfl⟩
   ·rw[e];exact⟨k.py,.inr rfl⟩
   ·exact absurd (hA e) e2
   ·rw[e];exact⟨i1,.inr rfl⟩
  ·rintro⟨q,e⟩;have ne:∀s,p≠(((xs.length:Nat):Int),s):=fun s e2=>by have:=q.2.1;rw[e2]at this;have h3:((xs.length:Nat):Int)<(xs.length:Nat):=this;omega
   refine⟨?_,ne 0⟩;obtain⟨q1,q2,q3,q4⟩:=q;rcases e with e|e
   ·rw[e]at q4;have:p.2<((au xs x).2.2.2.2.length:Nat):=q4;exact .inl (.inl (.inl (bX e (by show p.2=0;omega))))
   ·rw[e]at q4;have:p.2<((au xs y).2.2.2.2.length:Nat):=q4;have:p.2=0∨p.2=1:=by omega
    rcases this with e2|e2
    ·exact .inl (.inl (.inr (bX e e2)))
    ·exact .inr (bX e e2)
end
end Go.Tr
namespace Go.Tr
open Go Go.RowKit
section
variable {D:Int→Prop}{xs ys:List ah}{x y:Int}
theorem lU(lab c d:Int)(xs:List ah):∀k,(bL lab c d xs k).length=xs.length+k
 |0=>rfl
 |k+1=>by unfold bL sI;rw[jK,jK,qA,lU lab c d xs k];rfl
theorem jJ{lab c d:Int}{xs:List ah}{p:aO}(h:aj xs p):∀k,aj (bL lab c d xs k) p
 |0=>h
 |k+1=>(jJ h k).app.link.link
theorem D6{P Q:List ah}{lab:Int}{n m:Nat}(hn:P.length=n+2)(hx:x<(n:Nat))(hy:y<(n:Nat))(hD:∀i,D i→i<(n:Nat))(hm:∀s:Int,0≤s→s<(m:Nat)→aj P ((n:Nat),s)∧aj P ((n+1:Nat),s))
  (h:SX D (fun p=>p=(x,0)∨p=(y,0)∨p.1=(n:Nat)∨p.1=((n+1:Nat):Int)) P Q):∀k:Nat,k+1≤m→
  SX D (fun p=>p=(x,0)∨p=(y,0)∨((p.1=(n:Nat)∨p.1=((n+1:Nat):Int))∧(p.2=0∨(k:Int)<p.2))∨(((n+2:Nat):Int)≤p.1∧p.2=0)) (bL lab ((n:Nat):Int) ((n+1:Nat):Int) P k) (bL lab ((n:Nat):Int) ((n+1:Nat):Int) Q k)
 |0,_=>h.congr fun p hp _=>by
  obtain⟨q1,q2,q3,_⟩:=hp;obtain⟨a,s⟩:=p;rw[hn]at q2;simp only[Prod.mk.injEq]at*;omega
 |k+1,hk=>by
  have ih:=D6 (lab:=lab) hn hx hy hD hm h k (by omega);have hl:(bL lab ((n:Nat):Int) ((n+1:Nat):Int) P k).length=n+2+k:=by rw[lU,hn]
  have hlq:(bL lab ((n:Nat):Int) ((n+1:Nat):Int) Q k).length=n+2+k:=by rw[←ih.len,hl]
  have nd:∀i:Nat,n≤i→¬D (i:Nat):=fun i hi e=>by have:=hD _ e;omega
  obtain⟨hc,hd⟩:=hm ((k+1:Nat):Int) (by omega) (by omega);have hc1:=jJ (lab:=lab) (c:=((n:Nat):Int)) (d:=((n+1:Nat):Int)) hc k;have hd1:=jJ (lab:=lab) (c:=((n:Nat):Int)) (d:=((n+1:Nat):Int)) hd k;generalize hA:bL lab ((n:Nat):Int) ((n+1:Nat):Int) P k=A at*;generalize hB:bL lab ((n:Nat):Int) ((n+1:Nat):Int) Q k=B at*;have s1:=ih.add (bJ 4 lab 0 [] 3);have f1:aj (A++[bJ 4 lab 0 [] 3]) ((A.length:Nat),1):=aj.bS.2 (.inr ⟨rfl,show(0:Int)≤1 by decide,show(1:Int)<3 by decide⟩)
  have f2:aj (A++[bJ 4 lab 0 [] 3]) ((A.length:Nat),2):=aj.bS.2 (.inr ⟨rfl,show(0:Int)≤2 by decide,show(2:Int)<3 by decide⟩);rw[hl]at f1 f2 s1;have s2:=s1.link (p:=((n+2+k:Nat),1)) (q:=((n:Nat),((k+1:Nat):Int))) f1 (nd _ (by omega)) (.inr rfl) hc1.app (nd _ (Nat.le_refl _)) (.inl (.inr (.inr (.inl ⟨.inl rfl,.inr (show(k:Int)<((k+1:Nat):Int) by omega)⟩)))) (bN (.inl (by omega)))
  have s3:=s2.link (p:=((n+2+k:Nat),2)) (q:=((n+1:Nat),((k+1:Nat):Int))) f2.link (nd _ (by omega)) ⟨.inr rfl,bN (.inr (by decide)),bN (.inl (by omega))⟩ hd1.app.link (nd _ (by omega))
   ⟨.inl (.inr (.inr (.inl ⟨.inr rfl,.inr (show(k:Int)<((k+1:Nat):Int) by omega)⟩))),bN (.inl (by omega)),bN (.inl (by omega))⟩ (bN (.inl (by omega)))
  have e1:bL lab ((n:Nat):Int) ((n+1:Nat):Int) P (k+1)=bF (bF (A++[bJ 4 lab 0 [] 3]) ((n+2+k:Nat),1) ((n:Nat),((k+1:Nat):Int))) ((n+2+k:Nat),2) ((n+1:Nat),((k+1:Nat):Int)):=by
   rw[←hl,←hA];rfl
  have e2:bL lab ((n:Nat):Int) ((n+1:Nat):Int) Q (k+1)=bF (bF (B++[bJ 4 lab 0 [] 3]) ((n+2+k:Nat),1) ((n:Nat),((k+1:Nat):Int))) ((n+2+k:Nat),2) ((n+1:Nat),((k+1:Nat):Int)):=by
   rw[←hlq,←hB];rfl
  rw[e1,e2];refine s3.congr fun p hp _=> ?_
  rw[aj.gW,aj.gW,aj.bS,hl]at hp
  have hp':p.1<((n+2+k:Nat):Int)∨(p.1=((n+2+k:Nat):Int)∧0≤p.2∧p.2<3):=by
   rcases hp with hp|hp
   ·have:=hp.2.1;rw[hl]at this;exact .inl this
   ·exact .inr hp
  have h0:0≤p.2:=by
   rcases hp with hp|hp
   ·exact hp.2.2.1
   ·exact hp.2.1
  obtain⟨a,s⟩:=p;simp only[Prod.mk.injEq,ne_eq]at*;omega
theorem Br{P Q:List ah}{b m:Nat}{X:aO→Prop}(hX:∀k:Nat,k<m→¬X (y,((k:Nat):Int)+1)∧X (((b+k:Nat):Int),0))(hy:aj P (y,0)∧∀k:Nat,k<m→aj P (y,((k:Nat):Int)+1)∧aj P (((b+k:Nat):Int),0))(yd:¬D y)(bd:∀k:Nat,¬D ((b+k:Nat):Int))(yb:y<(b:Nat))(h:SX D X P Q):
  ∀k:Nat,k≤m→SX D (fun p=>(X p∨(p.1=y∧1≤p.2∧p.2≤(k:Nat)))∧¬((b:Int)≤p.1∧p.1<((b+k:Nat):Int)∧p.2=0)) (jr y b P k) (jr y b Q k)
 |0,_=>h.congr fun p hp _=>by
  constructor
  ·rintro⟨e|e,_⟩
   ·exact e
   ·omega
  ·intro e;exact⟨.inl e,fun k=>by omega⟩
 |k+1,hk=>by
  have ih:=Br hX hy yd bd yb h k (by omega);obtain⟨x1,x2⟩:=hX k (by omega);obtain⟨y1,y2⟩:=hy.2 k (by omega)
  have s1:=ih.move (old:=(y,((k:Nat):Int)+1)) (now:=(((b+k:Nat):Int),0)) (lg y1 k) yd (by
   rintro⟨e|⟨_,_,e⟩,_⟩
   ·exact x1 e
   ·have:((k:Nat):Int)+1≤(k:Nat):=e;omega) (lg y2 k) (bd k) ⟨.inl x2,fun e=>by have:((b+k:Nat):Int)<((b+k:Nat):Int):=e.2.1;omega⟩
  refine s1.congr fun p hp _=> ?_
  have q:(((X p∨(p.1=y∧1≤p.2∧p.2≤((k+1:Nat):Int)))∧¬((b:Int)≤p.1∧p.1<((b+(k+1):Nat):Int)∧p.2=0))↔((((X p∨(p.1=y∧1≤p.2∧p.2≤(k:Nat)))∧¬((b:Int)≤p.1∧p.1<((b+k:Nat):Int)∧p.2=0))∨p=(y,((k:Nat):Int)+1))∧p≠(((b+k:Nat):Int),0))):=by
   obtain⟨a,s⟩:=p;simp only[Prod.mk.injEq,ne_eq]
   by_cases hXp:X (a,s)
   ·simp only[hXp,true_or,true_and];omega
   ·simp only[hXp,false_or];omega
  exact q
theorem tC{lab c d:Int}{xs:List ah}{p:aO}(hlt:p.1.toNat<xs.length):∀{k:Nat},aj (bL lab c d xs k) p→aj xs p
 |0,h=>h
 |k+1,h=>by
  unfold bL sI at h;rw[aj.gW,aj.gW,aj.bS,lU]at h;rcases h with h|⟨h,_⟩
  ·exact tC hlt h
  ·omega
theorem vC{y:Int}{b:Nat}{xs:List ah}{p:aO}:∀k:Nat,aj (jr y b xs k) p↔aj xs p
 |0=>Iff.rfl
 |k+1=>by unfold jr;rw[aj.gX,vC k]
theorem I8{xs:List ah}{y:Int}{p:aO}(hlt:p.1.toNat<xs.length)(h:aj (dup2 xs y) p):aj xs p:=by
 unfold dup2 at h;rw[aj.bS,aj.bS,qA]at h;rcases h with(h|⟨h,_⟩)|⟨h,_⟩
 ·exact h
 ·omega
 ·simp only[qJ]at h;omega
theorem Ba{xs:List ah}{y:Int}{lab:Int}{p:aO}:∀k:Nat,aj (bL lab ((xs.length:Nat):Int) ((xs.length+1:Nat):Int) (dup2 xs y) k) p→0≤p.1∧p.1<((xs.length+2+k:Nat):Int)∧0≤p.2∧(p.1=(xs.length:Nat)∨p.1=((xs.length+1:Nat):Int)→p.2<((au xs y).2.2.2.2.length:Nat))
 |0,h=>by
  have h5:aj (dup2 xs y) p:=h;obtain⟨h1,h2,h3,_⟩:=h;refine⟨h1,by(have:(bL lab ((xs.length:Nat):Int) ((xs.length+1:Nat):Int) (dup2 xs y) 0).length=xs.length+2:=nN xs y);omega,h3,fun e=> ?_⟩;unfold dup2 at h5;have hd:(qw xs y).aD.length=(au xs y).2.2.2.2.length:=by show(List.replicate _ _).length=_;rw[List.length_replicate]
  rw[aj.bS,aj.bS,qA,qJ]at h5;rcases h5 with(h5|⟨_,_,h5⟩)|⟨_,_,h5⟩
  ·have:=h5.2.1;omega
  ·omega
  ·omega
 |k+1,h=>by
  unfold bL sI at h;rw[aj.gW,aj.gW,aj.bS,lU,nN]at h;rcases h with h|⟨h1,h2,h3⟩
  ·obtain⟨q1,q2,q3,q4⟩:=Ba k h;exact⟨q1,by omega,q3,q4⟩
  ·exact⟨by omega,by omega,h2,fun e=>by omega⟩
theorem St.duplicate(h:St D xs ys)(k:kY D xs x y)(hD:∀i,D i→i<(xs.length:Nat))(hx:(au xs x).2.2.2.2.length=3)(hy:1≤(au xs y).2.2.2.2.length):
  St (fun i=>D i∨i=x∨i=y) (iV xs x y) (dL (dL (iV ys x y) x) y):=by
 have ey:au ys y=au xs y:=(h.ag.2 y k.py.1 k.py.2.1 k.ly).symm;have ex:au ys x=au xs x:=(h.ag.2 x k.px.1 k.px.2.1 k.lx).symm;have hl:xs.length=ys.length:=h.ag.1;have xl:x<(xs.length:Nat):=k.px.2.1;have yl:y<(xs.length:Nat):=k.py.2.1;have x0:0≤x:=k.px.1;have y0:0≤y:=k.py.1;have hne:=k.ne;generalize hm:(au xs y).2.2.2.2.length=m at*;generalize hn:xs.length=n at*;have nd:∀i:Nat,n≤i→¬D (i:Nat):=fun i hi e=>by have:=hD _ e;omega
 have s0:=SX.start h k
 have s2:SX D (fun p=>p=(x,0)∨p=(y,0)∨p.1=(n:Nat)∨p.1=((n+1:Nat):Int)) (dup2 xs y) (dup2 ys y):=by
  have e:qw ys y=qw xs y:=by unfold qw;rw[ey]
  unfold dup2;rw[e];refine((s0.add (qw xs y)).add (qw xs y)).congr fun p _ _=> ?_
  rw[qA,hn];simp only[qJ];constructor
  ·rintro(e|e|e|e)
   ·exact .inl (.inl (.inl e))
   ·exact .inl (.inl (.inr e))
   ·exact .inl (.inr e)
   ·exact .inr e
  ·rintro(((e|e)|e)|e)
   ·exact .inl e
   ·exact .inr (.inl e)
   ·exact .inr (.inr (.inl e))
   ·exact .inr (.inr (.inr e))
 have hP:(dup2 xs y).length=n+2:=by rw[nN,hn]
 have hc:∀s:Int,0≤s→s<(m:Nat)→aj (dup2 xs y) ((n:Nat),s)∧aj (dup2 xs y) ((n+1:Nat),s):=fun s h0 h1=>by
  have q1:=FE (xs:=xs) (y:=y) h0 (by rw[hm];exact h1);have q2:=FH (xs:=xs) (y:=y) h0 (by rw[hm];exact h1);rw[hn]at q1 q2;exact⟨q1,q2⟩
 have s3:=D6 (lab:=(au xs x).2.1) hP xl yl hD hc s2 (m-1) (by omega)
 have fx:(au (dup2 xs y) x).2.1=(au xs x).2.1:=by
  unfold dup2;rw[dF (by rw[qA,hn];omega),dF (by omega)]
 have fy:(au (dup2 ys y) x).2.1=(au xs x).2.1:=by
  unfold dup2;rw[dF (by rw[qA];omega),dF (by omega),ex]
 have d3x:dup3 xs x y=bL (au xs x).2.1 ((n:Nat):Int) ((n+1:Nat):Int) (dup2 xs y) (m-1):=by
  unfold dup3;rw[←(kZ (x:=x) (by rw[hP];omega) _).1,fx,hn,hm]
 have d3y:dup3 ys x y=bL (au xs x).2.1 ((n:Nat):Int) ((n+1:Nat):Int) (dup2 ys y) (m-1):=by
  unfold dup3;rw[←(kZ (x:=x) (by rw[nN];omega) _).1,fy,←hl,ey,hm]
 have hpp:=fun p=>Ba (xs:=xs) (y:=y) (lab:=(au xs x).2.1) (p:=p) (m-1)
 have hbk:∀p:aO,p.1.toNat<n→aj (bL (au xs x).2.1 ((n:Nat):Int) ((n+1:Nat):Int) (dup2 xs y) (m-1)) p→aj xs p:=fun p hlt hp=>I8 (by rw[hn];exact hlt) (tC (by rw[hP];omega) hp)
 have hin:∀p:aO,aj xs p→aj (bL (au xs x).2.1 ((n:Nat):Int) ((n+1:Nat):Int) (dup2 xs y) (m-1)) p:=fun p hp=>jJ (BX hp) _
 have hfan:∀i:Nat,i<m-1→aj (bL (au xs x).2.1 ((n:Nat):Int) ((n+1:Nat):Int) (dup2 xs y) (m-1)) (((n+2+i:Nat):Int),0):=fun i hi=>by
  have:=ze (x:=x) (c:=((n:Nat):Int)) (d:=((n+1:Nat):Int)) (xs:=dup2 xs y) hi;rw[←(kZ (x:=x) (by rw[hP];omega) _).1,fx,hP]at this;exact this
 rw[hn,hm]at hpp;have hcn:=jJ (lab:=(au xs x).2.1) (c:=((n:Nat):Int)) (d:=((n+1:Nat):Int)) (hc 0 (Int.le_refl _) (by omega)).1 (m-1);have hdn:=jJ (lab:=(au xs x).2.1) (c:=((n:Nat):Int)) (d:=((n+1:Nat):Int)) (hc 0 (Int.le_refl _) (by omega)).2 (m-1);have inx:∀s:Int,0≤s→s<3→aj xs (x,s):=fun s h0 h1=>⟨k.px.1,k.px.2.1,h0,by show s<((au xs x).2.2.2.2.length:Nat);omega⟩
 have iny:∀s:Int,0≤s→s<(m:Nat)→aj xs (y,s):=fun s h0 h1=>⟨k.py.1,k.py.2.1,h0,by show s<((au xs y).2.2.2.2.length:Nat);rw[hm];exact h1⟩
 unfold iV Ms;rw[d3x,d3y,←hl,hn,ey,hm];generalize bL (au xs x).2.1 ((n:Nat):Int) ((n+1:Nat):Int) (dup2 xs y) (m-1)=A at*;generalize bL (au xs x).2.1 ((n:Nat):Int) ((n+1:Nat):Int) (dup2 ys y) (m-1)=B at*;have s4:=s3.move (old:=(x,1)) (now:=((n:Nat),0)) (hin _ (inx 1 (by decide) (by decide))) k.lx (by simp only[Prod.mk.injEq,ne_eq,and_true,true_and,or_true,true_or];omega) hcn (nd _ (Nat.le_refl _)) (.inr (.inr (.inl ⟨.inl rfl,.inl rfl⟩)));have s5:=s4.move (old:=(x,2)) (now:=((n+1:Nat),0)) (hin _ (inx 2 (by decide) (by decide))).move k.lx (by simp only[Prod.mk.injEq,ne_eq,and_true,true_and,or_true,true_or];omega) hdn.move (nd _ (by omega)) (by simp only[Prod.mk.injEq,ne_eq,and_true,true_and,or_true,true_or];omega)
 have s6:=Br (y:=y) (b:=n+2) (m:=m-1) (fun i hi=>by simp only[Prod.mk.injEq,ne_eq,and_true,true_and,or_true,true_or];omega) ⟨(hin _ (iny 0 (Int.le_refl _) (by omega))).move.move,fun i hi=>⟨(hin _ (iny _ (by omega) (by omega))).move.move,(hfan i hi).move.move⟩⟩ k.ly (fun i=>nd _ (by omega)) (by omega) s5 (m-1) (Nat.le_refl _);refine s6.Ja x0 y0 fun p hp _=> ?_
 rw[vC,aj.gX,aj.gX]at hp;obtain⟨q1,q2,q3,q4⟩:=hpp p hp
 have q5:p.1=x→p.2<3:=fun e=>by
  have:=(hbk p (by omega) hp).2.2.2;rw[e]at this;have h2:p.2<((au xs x).2.2.2.2.length:Nat):=this;omega
 have q6:p.1=y→p.2<(m:Nat):=fun e=>by
  have:=(hbk p (by omega) hp).2.2.2;rw[e]at this;have h2:p.2<((au xs y).2.2.2.2.length:Nat):=this;omega
 clear hpp hbk hin hfan s0 s2 s3 s4 s5 s6 hc inx iny nd;obtain⟨a,s⟩:=p;simp only[Prod.mk.injEq,ne_eq]at*;omega
end
end Go.Tr
namespace Go.Tr
open Go Go.RowKit
section
variable {D:Int→Prop}{xs ys:List ah}{x y:Int}
theorem vY{zs:List ah}{p:aO}(q:aO)(hp:aj xs p):aN (xs++zs) p q=aN xs p q++zs:=by
 have hl:=zF hp;unfold aN;rw[dF hl,List.set_append_left _ _ hl]
theorem Jk{zs:List ah}{p q:aO}(hp:aj xs p)(hq:aj xs q):bF (xs++zs) p q=bF xs p q++zs:=by
 unfold bF;rw[vY q hp,vY p hq.set]
theorem FQ{p q r s:aO}(hp:aj xs p)(hq:aj xs q)(hr:aj xs r)(hs:aj xs s)(pr:p≠r)(ps:p≠s)(qr:q≠r)(qs:q≠s):bF (bF xs p q) r s=bF (bF xs r s) p q:=by
 unfold bF;rw[jA hq.set hr.set qr,jA (xs:=xs) hp hr pr];rw[jA (xs:=aN (aN xs r s) p q) hq.set.set hs.set.set qs,jA (xs:=aN xs r s) hp.set hs.set ps]
theorem Jo{W:List ah}{a:ah}{old now P Q:aO}(ho:aj W old)(hpe:aj W (aJ W old))(hn:aj W now)(hP:aj (W++[a]) P)(hPl:(W.length:Int)≤P.1)(hQ:aj W Q)(oq:old≠Q)(pq:aJ W old≠Q)(nq:now≠Q):
  eD (bF (W++[a]) P Q) old now=bF (eD W old now++[a]) P Q:=by
 have far:∀r:aO,aj W r→r≠P:=fun r hr e=>by have:=hr.2.1;rw[e]at this;omega
 have e1:aJ (bF (W++[a]) P Q) old=aJ W old:=by
  rw[iA hP hQ.app ho.app,if_neg (fun e=>oq e.symm),if_neg (fun e=>far old ho e.symm),kQ (zF ho)]
 unfold eD;rw[e1,FQ hP hQ.app hpe.app hn.app (fun e=>far _ hpe e.symm) (fun e=>far _ hn e.symm) (fun e=>pq e.symm) (fun e=>nq e.symm),Jk hpe hn]
theorem GX{P Q:List ah}{lv:Int}{n m:Nat}(hn:P.length=n+1)(xl:x<(n:Nat))(yl:y<(n:Nat))(x0:0≤x)(xy:x≠y)(xd:¬D x)(hD:∀i,D i→i<(n:Nat))(hx:∀s:Int,0≤s→s<(m:Nat)→aj P (x,s))(hr:aj P ((n:Nat),0))
  (h:SX D (fun p=>p=(x,0)∨p=(y,0)∨p.1=(n:Nat)) P Q) (h1:∀p,aj P p→p.1=(n:Nat)→p.2=0):∀k:Nat,k+1≤m→
  SX D (fun p=>(p.1=x∧p.2≤(k:Nat))∨p=(y,0)∨p=lK (n+1) k) (yg lv x (n+1) P k) (yg lv x (n+1) Q k)
 |0,_=>h.congr fun p hp _=>by
  have h2:=h1 p hp;obtain⟨q1,q2,q3,_⟩:=hp;unfold lK;obtain⟨a,s⟩:=p;rw[hn]at q2;simp only[Prod.mk.injEq]at*;omega
 |k+1,hk=>by
  have ih:=GX (lv:=lv) hn xl yl x0 xy xd hD hx hr h h1 k (by omega);have hl:(yg lv x (n+1) P k).length=n+1+k:=by rw[vg,hn]
  have nd:∀i:Nat,n≤i→¬D (i:Nat):=fun i hi e=>by have:=hD _ e;omega
  have hxk:=FB (lv:=lv) (x:=x) (b:=n+1) (hx ((k+1:Nat):Int) (by omega) (by omega)) k
  have hR:aj (yg lv x (n+1) P k) (lK (n+1) k):=by
   have:=J4 (lv:=lv) (x:=x) (xs:=P) (by rw[hn];exact hr) k;rw[hn]at this;exact this
  have hR1:(n:Int)≤(lK (n+1) k).1∧(lK (n+1) k).1<((n+1+k:Nat):Int):=by
   cases k with
   |zero=>unfold lK;simp only[];omega
   |succ k=>unfold lK;simp only[];omega
  have s1:=ih.add (bJ 3 lv 0 [] 3);rw[hl]at s1;have f0:aj (yg lv x (n+1) P k++[bJ 3 lv 0 [] 3]) ((n+1+k:Nat),0):=aj.bS.2 (.inr ⟨by rw[hl],Int.le_refl _,show(0:Int)<3 by decide⟩);have f1:aj (yg lv x (n+1) P k++[bJ 3 lv 0 [] 3]) ((n+1+k:Nat),1):=aj.bS.2 (.inr ⟨by rw[hl],show(0:Int)≤1 by decide,show(1:Int)<3 by decide⟩);have hRd:¬D (lK (n+1) k).1:=fun e=>by have:=hD _ e;omega
  have s2:=s1.link (p:=lK (n+1) k) (q:=((n+1+k:Nat),0)) hR.app hRd (.inl (.inr (.inr rfl))) f0 (nd _ (by omega)) (.inr rfl) (fun e=>by rw[e]at hR1;have:=hR1.2;have h3:((n+1+k:Nat):Int)<((n+1+k:Nat):Int):=this;omega)
  have s3:=s2.move (old:=(x,((k+1:Nat):Int))) (now:=((n+1+k:Nat),1)) hxk.app.link xd (by
   rintro⟨(⟨_,e⟩|e|e)|e,_,_⟩
   ·have:((k+1:Nat):Int)≤(k:Nat):=e;omega
   ·exact bN (.inl xy) e
   ·rw[←e]at hR1;have:=hR1.1;have h3:(n:Int)≤x:=this;omega
   ·have:x=((n+1+k:Nat):Int):=e;omega) f1.link (nd _ (by omega)) ⟨.inr rfl,fun e=>by rw[←e]at hR1;have:=hR1.2;have h3:((n+1+k:Nat):Int)<((n+1+k:Nat):Int):=this;omega,bN (.inr (by decide))⟩
  show SX D _ (yg lv x (n+1) P (k+1)) (yg lv x (n+1) Q (k+1));unfold yg;refine s3.congr fun p hp _=> ?_
  rw[aj.gX,aj.gW,aj.bS,hl]at hp
  have hp':p.1<((n+1+k:Nat):Int)∨(p.1=((n+1+k:Nat):Int)∧0≤p.2∧p.2<3):=by
   rcases hp with hp|hp
   ·have:=hp.2.1;rw[hl]at this;exact .inl this
   ·exact .inr hp
  have e2:lK (n+1) (k+1)=(((n+1+k:Nat):Int),2):=rfl;rw[e2];obtain⟨a,s⟩:=p;generalize hRR:lK (n+1) k=R at*;obtain⟨ra,rs⟩:=R;simp only[Prod.mk.injEq,ne_eq]at*;omega
theorem SX.self{X:aO→Prop}(h:SX D X xs ys):SX D X xs xs:=⟨⟨rfl,fun _ _ _ _=>rfl⟩,h.wi,h.al⟩
theorem BR{n k:Nat}:(n:Int)≤(lK (n+1) k).1∧(lK (n+1) k).1<((n+1+k:Nat):Int)∧(lK (n+1) k).2≠1:=by
 cases k with
 |zero=>unfold lK;simp only[];omega
 |succ k=>unfold lK;simp only[];omega
theorem GU{P Q:List ah}{lv:Int}{n:Nat}(hn:P.length=n+1)(xl:x<(n:Nat))(yl:y<(n:Nat))(hD:∀i,D i→i<(n:Nat))(hr:aj P ((n:Nat),0))
  (h:SX D (fun p=>p=(x,0)∨p=(y,0)∨p.1=(n:Nat)) P Q) (h1:∀p,aj P p→p.1=(n:Nat)→p.2=0):∀k:Nat,
  SX D (fun p=>p=(x,0)∨p=(y,0)∨(((n+1:Nat):Int)≤p.1∧p.2=1)∨p=lK (n+1) k) (sQ lv (n+1) P k) (sQ lv (n+1) Q k)
 |0=>h.congr fun p hp _=>by
  have h2:=h1 p hp;obtain⟨q1,q2,q3,_⟩:=hp;unfold lK;obtain⟨a,s⟩:=p;rw[hn]at q2;simp only[Prod.mk.injEq]at*;omega
 |k+1=>by
  have ih:=GU (lv:=lv) hn xl yl hD hr h h1 k;have hl:(sQ lv (n+1) P k).length=n+1+k:=by rw[uZ,hn]
  have nd:∀i:Nat,n≤i→¬D (i:Nat):=fun i hi e=>by have:=hD _ e;omega
  obtain⟨r1,r2,r3⟩:=BR (n:=n) (k:=k)
  have hR:aj (sQ lv (n+1) P k) (lK (n+1) k):=by
   have:=GL (lv:=lv) (xs:=P) (by rw[hn];exact hr) k;rw[hn]at this;exact this
  have s1:=ih.add (bJ 3 lv 0 [] 3);rw[hl]at s1;have f0:aj (sQ lv (n+1) P k++[bJ 3 lv 0 [] 3]) ((n+1+k:Nat),0):=aj.bS.2 (.inr ⟨by rw[hl],Int.le_refl _,show(0:Int)<3 by decide⟩);have s2:=s1.link (p:=((n+1+k:Nat),0)) (q:=lK (n+1) k) f0 (nd _ (by omega)) (.inr rfl) hR.app (fun e=>by have:=hD _ e;omega) (.inl (.inr (.inr (.inr rfl)))) (fun e=>by rw[←e]at r2;have h3:((n+1+k:Nat):Int)<((n+1+k:Nat):Int):=r2;omega);unfold sQ;refine s2.congr fun p hp _=> ?_
  rw[aj.gW,aj.bS,hl]at hp
  have hp':p.1<((n+1+k:Nat):Int)∨(p.1=((n+1+k:Nat):Int)∧0≤p.2∧p.2<3):=by
   rcases hp with hp|hp
   ·have:=hp.2.1;rw[hl]at this;exact .inl this
   ·exact .inr hp
  have e2:lK (n+1) (k+1)=(((n+1+k:Nat):Int),2):=rfl;rw[e2];obtain⟨a,s⟩:=p;generalize hRR:lK (n+1) k=R at*;obtain⟨ra,rs⟩:=R;simp only[Prod.mk.injEq,ne_eq]at*;omega
theorem GK{Z:List ah}{n m k:Nat}(xl:x<(n:Nat))(x0:0≤x)(xy:x≠y)(xd:¬D x)(hD:∀i,D i→i<(n:Nat))(hx:∀s:Int,0≤s→s<(m:Nat)→aj Z (x,s))(hz:∀i:Nat,i<k→aj Z (((n+1+i:Nat):Int),1))(hl:Z.length=n+1+k)
  (h:SX D (fun p=>p=(x,0)∨p=(y,0)∨(((n+1:Nat):Int)≤p.1∧p.2=1)∨p=lK (n+1) k) Z Z):∀j:Nat,j≤k→j+1≤m→
  SX D (fun p=>(p.1=x∧p.2≤(j:Nat))∨p=(y,0)∨(((n+1+j:Nat):Int)≤p.1∧p.2=1)∨p=lK (n+1) k) (DK x (n+1) Z j) (DK x (n+1) Z j)
 |0,_,_=>h.congr fun p hp _=>by
  obtain⟨q1,q2,q3,_⟩:=hp;obtain⟨a,s⟩:=p;generalize lK (n+1) k=R;obtain⟨ra,rs⟩:=R;simp only[Prod.mk.injEq]at*;omega
 |j+1,hj,hm=>by
  have ih:=GK xl x0 xy xd hD hx hz hl h j (by omega) (by omega);obtain⟨r1,r2,r3⟩:=BR (n:=n) (k:=k);have nd:∀i:Nat,n≤i→¬D (i:Nat):=fun i hi e=>by have:=hD _ e;omega
  have s1:=ih.move (old:=(x,((j:Nat):Int)+1)) (now:=(((n+1+j:Nat):Int),1)) (nu (hx _ (by omega) (by omega)) j) xd (by
   generalize lK (n+1) k=R at*;obtain⟨ra,rs⟩:=R;simp only[Prod.mk.injEq,ne_eq]at*;omega) (nu (hz j (by omega)) j) (nd _ (by omega)) (.inr (.inr (.inl ⟨Int.le_refl _,rfl⟩)))
  unfold DK;refine s1.congr fun p hp _=> ?_
  have q3:=hp.2.2.1;have q2:=hp.2.1;obtain⟨a,s⟩:=p;generalize hRR:lK (n+1) k=R at*;obtain⟨ra,rs⟩:=R;simp only[Prod.mk.injEq,ne_eq]at*;omega
theorem Ny{P:List ah}{lv:Int}{n m:Nat}(hn:P.length=n+1)(xl:x<(n:Nat))(yl:y<(n:Nat))(x0:0≤x)(xy:x≠y)(xd:¬D x)(hD:∀i,D i→i<(n:Nat))(hx:∀s:Int,0≤s→s<(m:Nat)→aj P (x,s))(hr:aj P ((n:Nat),0))
  (h:SX D (fun p=>p=(x,0)∨p=(y,0)∨p.1=(n:Nat)) P P) (h1:∀p,aj P p→p.1=(n:Nat)→p.2=0):∀k:Nat,k+1≤m→DK x (n+1) (sQ lv (n+1) P k) k=yg lv x (n+1) P k
 |0,_=>rfl
 |k+1,hk=>by
  have ih:=Ny (lv:=lv) hn xl yl x0 xy xd hD hx hr h h1 k (by omega);have hl:(sQ lv (n+1) P k).length=n+1+k:=by rw[uZ,hn]
  have nd:∀i:Nat,n≤i→¬D (i:Nat):=fun i hi e=>by have:=hD _ e;omega
  obtain⟨r1,r2,r3⟩:=BR (n:=n) (k:=k)
  have hR:aj (sQ lv (n+1) P k) (lK (n+1) k):=by
   have:=GL (lv:=lv) (xs:=P) (by rw[hn];exact hr) k;rw[hn]at this;exact this
  have hxN:∀s:Int,0≤s→s<(m:Nat)→aj (sQ lv (n+1) P k) (x,s):=fun s a b=>BQ (hx s a b) k
  have hzN:∀i:Nat,i<k→aj (sQ lv (n+1) P k) (((n+1+i:Nat):Int),1):=fun i hi=>by
   have:=yG (lv:=lv) (xs:=P) (s:=1) (by decide) (by decide) hi;rw[hn]at this;exact this
  have sN:=GU (lv:=lv) hn xl yl hD hr h h1 k
  have key:∀j:Nat,j≤k→DK x (n+1) (bF (sQ lv (n+1) P k++[bJ 3 lv 0 [] 3]) ((n+1+k:Nat),0) (lK (n+1) k)) j=bF (DK x (n+1) (sQ lv (n+1) P k) j++[bJ 3 lv 0 [] 3]) ((n+1+k:Nat),0) (lK (n+1) k):=by
   intro j
   induction j with
   |zero=>intro _;rfl
   |succ j ihj=>
    intro hj;have e:=ihj (by omega);have sM:=GK (k:=k) xl x0 xy xd hD hxN hzN hl sN j (by omega) (by omega);have hlW:(DK x (n+1) (sQ lv (n+1) P k) j).length=n+1+k:=by rw[GI,hl]
    show eD (DK x (n+1) (bF (sQ lv (n+1) P k++[bJ 3 lv 0 [] 3]) ((n+1+k:Nat),0) (lK (n+1) k)) j) (x,((j:Nat):Int)+1) (((n+1+j:Nat):Int),1)=bF (eD (DK x (n+1) (sQ lv (n+1) P k) j) (x,((j:Nat):Int)+1) (((n+1+j:Nat):Int),1)++[bJ 3 lv 0 [] 3]) _ _;rw[e];have ho:=nu (x:=x) (b:=n+1) (hxN (((j:Nat):Int)+1) (by omega) (by omega)) j
    have hw:=sM.wi (x,((j:Nat):Int)+1) ⟨⟨ho,xd⟩,by
     generalize lK (n+1) k=R at*;obtain⟨ra,rs⟩:=R;simp only[Prod.mk.injEq]at*;omega⟩
    refine Jo ho hw.2.1.1.1 (nu (hzN j (by omega)) j) (aj.bS.2 (.inr ⟨by rw[hlW],Int.le_refl _,show(0:Int)<3 by decide⟩)) (by rw[hlW];exact Int.le_refl _) (nu hR j) ?_ (fun e=>hw.2.1.2 (.inr (.inr (.inr e)))) ?_
    ·intro e;rw[←e]at r1;have:(n:Int)≤x:=r1;omega
    ·intro e;rw[←e]at r3;exact r3 rfl
  show eD (DK x (n+1) (bF (sQ lv (n+1) P k++[bJ 3 lv 0 [] 3]) (((n+1+k:Nat):Int),0) (lK (n+1) k)) k) (x,((k:Nat):Int)+1) (((n+1+k:Nat):Int),1)=eD (bF (yg lv x (n+1) P k++[bJ 3 lv 0 [] 3]) (lK (n+1) k) (((n+1+k:Nat):Int),0)) (x,((k+1:Nat):Int)) (((n+1+k:Nat):Int),1);rw[key k (Nat.le_refl _),ih];have hlS:(yg lv x (n+1) P k).length=n+1+k:=by rw[vg,hn]
  have hRS:aj (yg lv x (n+1) P k) (lK (n+1) k):=by
   have:=J4 (lv:=lv) (x:=x) (xs:=P) (by rw[hn];exact hr) k;rw[hn]at this;exact this
  rw[zD (aj.bS.2 (.inr ⟨by rw[hlS],Int.le_refl _,show(0:Int)<3 by decide⟩)) hRS.app];rfl
theorem yX{lv:Int}{b:Nat}{P:List ah}{p:aO}(hlt:p.1.toNat<P.length):∀{k:Nat},aj (yg lv x b P k) p→aj P p
 |0,h=>h
 |k+1,h=>by
  unfold yg at h;rw[aj.gX,aj.gW,aj.bS,vg]at h;rcases h with h|⟨h,_⟩
  ·exact yX hlt h
  ·omega
theorem St.choose(h:St D xs ys)(k:kY D xs x y)(hD:∀i,D i→i<(xs.length:Nat))(h6:(au xs x).1=6↔(au xs y).1=11)(hx:(au xs x).1=6→(au xs x).2.2.2.2.length=1)(hx1:1≤(au xs x).2.2.2.2.length)(hy:(au xs y).2.2.2.2.length=2):
  St (fun i=>D i∨i=x∨i=y) (oM xs x y) (dL (dL (vk ys x y) x) y):=by
 have ey:au ys y=au xs y:=(h.ag.2 y k.py.1 k.py.2.1 k.ly).symm;have ex:au ys x=au xs x:=(h.ag.2 x k.px.1 k.px.2.1 k.lx).symm;have hl:xs.length=ys.length:=h.ag.1;have xl:x<(xs.length:Nat):=k.px.2.1;have yl:y<(xs.length:Nat):=k.py.2.1;have x0:0≤x:=k.px.1;have y0:0≤y:=k.py.1;have hne:=k.ne;have nd:∀i:Nat,xs.length≤i→¬D (i:Nat):=fun i hi e=>by have:=hD _ e;omega
 have iny1:aj xs (y,1):=⟨k.py.1,k.py.2.1,show(0:Int)≤1 by decide,by show(1:Int)<((au xs y).2.2.2.2.length:Nat);omega⟩;have hkb:((au xs x).1==6)=((au xs y).1==11):=by rw[Bool.eq_iff_iff];simpa using h6
 have s1:∀i:Int,SX D (fun p=>p=(x,0)∨p=(y,0)∨p.1=(xs.length:Nat)) (gu xs y i) (gu ys y i):=fun i=>by
  unfold gu;rw[ey];refine((SX.start h k).add _).congr fun p _ _=> ?_
  constructor
  ·rintro(e|e|e)
   ·exact .inl (.inl e)
   ·exact .inl (.inr e)
   ·exact .inr e
  ·rintro((e|e)|e)
   ·exact .inl e
   ·exact .inr (.inl e)
   ·exact .inr (.inr e)
 have hlen:∀i:Int,(gu xs y i).length=xs.length+1:=fun i=>by unfold gu;rw[qA];rfl
 have hnew:∀i:Int,aj (gu xs y i) ((xs.length:Nat),0):=fun i=>aj.bS.2 (.inr ⟨rfl,Int.le_refl _,show(0:Int)<1 by decide⟩)
 have h1:∀(i:Int) p,aj (gu xs y i) p→p.1=(xs.length:Nat)→p.2=0:=fun i p hp e=>by
  rcases aj.bS.1 hp with q|⟨_,q2,q3⟩
  ·have:=q.2.1;omega
  ·have:p.2<1:=q3;omega
 have hback:∀(i:Int) (p:aO),p.1.toNat<xs.length→aj (gu xs y i) p→aj xs p:=fun i p hlt hp=>by
  rcases aj.bS.1 hp with q|⟨q,_⟩
  ·exact q
  ·omega
 have hin:∀(i:Int) (p:aO),aj xs p→aj (gu xs y i) p:=fun i p hp=>hp.app
 unfold oM vk;rw[ex,ey,hkb,←hl];cases hk:(au xs y).1==11 with
 |true=>
  simp only[qG];have h3:=hx (h6.2 (by simpa using hk));generalize (bif (au xs x).2.2.1==0 then(1:Int)else 0)=i;have s2:=(s1 i).move (old:=(y,1)) (now:=((xs.length:Nat),0)) (hin i _ iny1) k.ly (by simp only[Prod.mk.injEq];omega) (hnew i) (nd _ (Nat.le_refl _)) (.inr (.inr rfl));refine s2.Ja x0 y0 fun p hp _=> ?_
  rw[aj.gX]at hp;have q0:=h1 i p hp;have q1:=hp.2.2.1;have q2:=hp.1
  have q4:p.1=x→p.2<1:=fun e=>by
   have:=(hback i p (by omega) hp).2.2.2;rw[e]at this;have h2:p.2<((au xs x).2.2.2.2.length:Nat):=this;omega
  have q5:p.1=y→p.2<2:=fun e=>by
   have:=(hback i p (by omega) hp).2.2.2;rw[e]at this;have h2:p.2<((au xs y).2.2.2.2.length:Nat):=this;omega
  obtain⟨a,s⟩:=p;simp only[Prod.mk.injEq,ne_eq]at*;omega
 |false=>
  simp only[qH];generalize (au xs x).2.2.1=i;generalize (au xs y).2.1=lv;have hxi:∀s:Int,0≤s→s<((au xs x).2.2.2.2.length:Nat)→aj (gu xs y i) (x,s):=fun s a b=>hin i _ ⟨x0,xl,a,b⟩
  rw[Ny (lv:=lv) (hlen i) xl yl x0 k.ne k.lx hD hxi (hnew i) (s1 i).self (h1 i) ((au xs x).2.2.2.2.length-1) (by omega)];have s2:=GX (lv:=lv) (hlen i) xl yl x0 k.ne k.lx hD hxi (hnew i) (s1 i) (h1 i) ((au xs x).2.2.2.2.length-1) (by omega);generalize hm:(au xs x).2.2.2.2.length=m at*;obtain⟨r1,r2,r3⟩:=BR (n:=xs.length) (k:=m-1)
  have hR:aj (yg lv x (xs.length+1) (gu xs y i) (m-1)) (lK (xs.length+1) (m-1)):=by
   have:=J4 (lv:=lv) (x:=x) (xs:=gu xs y i) (by rw[hlen];exact hnew i) (m-1);rw[hlen]at this;exact this
  have s3:=s2.move (old:=(y,1)) (now:=lK (xs.length+1) (m-1)) (FB (hin i _ iny1) _) k.ly (by
   generalize lK (xs.length+1) (m-1)=R at*;obtain⟨ra,rs⟩:=R;simp only[Prod.mk.injEq]at*;omega) hR (fun e=>by have:=hD _ e;omega) (.inr (.inr rfl))
  refine s3.Ja x0 y0 fun p hp _=> ?_
  rw[aj.gX]at hp;have q1:=hp.2.2.1;have q2:=hp.1
  have q4:p.1=x→p.2<(m:Nat):=fun e=>by
   have:=(hback i p (by omega) (yX (by rw[hlen];omega) hp)).2.2.2;rw[e]at this;have h2:p.2<((au xs x).2.2.2.2.length:Nat):=this;omega
  have q5:p.1=y→p.2<2:=fun e=>by
   have:=(hback i p (by omega) (yX (by rw[hlen];omega) hp)).2.2.2;rw[e]at this;have h2:p.2<((au xs y).2.2.2.2.length:Nat):=this;omega
  generalize lK (xs.length+1) (m-1)=R at*;obtain⟨ra,rs⟩:=R;obtain⟨a,s⟩:=p;clear h1 hback hin hxi s1 s2 s3 hnew hlen nd;simp only[Prod.mk.injEq,ne_eq]at*;omega
end
end Go.Tr
namespace Go.Tr
open Go Go.RowKit
section
variable {D:Int→Prop}{X:aO→Prop}{xs ys:List ah}{x y:Int}
theorem tY{t:List ah}{b i:Int}(hb:b=(xs.length:Int)-1)(h1:(xs.length:Int)≤i)(h2:i-b<(t.length:Nat)):au (xs++(t.drop 1).map (gD b)) i=gD b (au t (i-b)):=by
 unfold au elt;rw[qC,qL (by omega),qY,List.getElem?_drop];have e:1+(i.toNat-xs.length)=(i-b).toNat:=by omega
 rw[e,qC,qB (by omega)];rfl
theorem Jp(t:List ah)(b:Int):((t.drop 1).map (gD b)).length=t.length-1:=by rw[qV,List.length_drop]
theorem aj.kN{t:List ah}{b:Int}{p:aO}(hb:b=(xs.length:Int)-1):aj (xs++(t.drop 1).map (gD b)) p↔aj xs p∨((xs.length:Int)≤p.1∧aj t (p.1-b,p.2)):=by
 have hml:=Jp t b;have hpl:∀a:ah,(gD b a).aD.length=a.aD.length:=fun a=>by show(List.map _ _).length=_;rw[qV]
 constructor
 ·intro h;have h':=h;obtain⟨h1,h2,h3,h4⟩:=h;rw[qA,hml]at h2
  by_cases hl:p.1.toNat<xs.length
  ·rw[dF hl]at h4;exact .inl ⟨h1,by omega,h3,h4⟩
  ·have hlt:p.1-b<(t.length:Nat):=by omega
   rw[tY hb (by omega) hlt,hpl]at h4;exact .inr ⟨by omega,by show 0≤p.1-b;omega,hlt,h3,h4⟩
 ·rintro(h|⟨h,h1,h2,h3,h4⟩)
  ·exact h.app
  ·have h2':p.1-b<(t.length:Nat):=h2;refine⟨by omega,by rw[qA,hml];omega,h3,?_⟩;rw[tY hb h h2',hpl];exact h4
theorem rT{t:List ah}{b:Int}{p:aO}(hb:b=(xs.length:Int)-1)(h:(xs.length:Int)≤p.1)(hp:aj t (p.1-b,p.2)):aJ (xs++(t.drop 1).map (gD b)) p=((aJ t (p.1-b,p.2)).1+b,(aJ t (p.1-b,p.2)).2):=by
 obtain⟨h1,h2,h3,h4⟩:=hp;unfold aJ;rw[tY hb h h2];show elt (dflt iO) (List.map _ _) p.2=_;unfold elt
 have h4':p.2.toNat<(au t (p.1-b)).aD.length:=by
  have h5:p.2<((au t (p.1-b)).aD.length:Nat):=h4;have h6:0≤p.2:=h3;omega
 rw[qC,qY,qB h4'];show _=(((au t (p.1-b)).aD.getD p.2.toNat (dflt iO)).1+b,((au t (p.1-b)).aD.getD p.2.toNat (dflt iO)).2);rw[qC,qB h4'];rfl
theorem SX.RS{t:List ah}{b:Int}(hb:b=(xs.length:Int)-1)(ht:gT (fun p=>aj t p) t)(h0:aj t (0,0))(h00:∀p,aj t p→p.1=0→p=(0,0))(hD:∀i,D i→i<(xs.length:Nat))(hX:∀p,X p→p.1<(xs.length:Nat))(h:SX D X xs ys):
  SX D (fun p=>X p∨p=((aJ t (0,0)).1+b,(aJ t (0,0)).2)) (xs++(t.drop 1).map (gD b)) (ys++(t.drop 1).map (gD b)):=by
 obtain⟨r1,r2,r3,r4⟩:=ht (0,0) h0;have rR:aj t (aJ t (0,0)):=r2
 have rpos:1≤(aJ t (0,0)).1:=by
  have h1:=rR.1
  by_cases e:(aJ t (0,0)).1=0
  ·exact absurd (h00 _ rR e) r4
  ·omega
 refine⟨h.ag.app _,fun p hp=> ?_,fun p hp=>hp.1.2⟩;obtain⟨⟨p1,p2⟩,p3⟩:=hp;rcases(aj.kN hb).1 p1 with q|⟨q1,q2⟩
 ·obtain⟨w1,w2,w3,w4⟩:=h.wi p ⟨⟨q,p2⟩,fun k=>p3 (.inl k)⟩;have e:=kQ (ys:=(t.drop 1).map (gD b)) (zF q);refine⟨p1,?_,by rw[e,kQ (zF w2.1.1),w3],by rw[e];exact w4⟩;rw[e];refine⟨⟨w2.1.1.app,w2.1.2⟩,fun k=> ?_⟩;rcases k with k|k
  ·exact w2.2 k
  ·have:=w2.1.1.2.1;rw[k]at this;have h2:(aJ t (0,0)).1+b<(xs.length:Nat):=this;omega
 ·obtain⟨w1,w2,w3,w4⟩:=ht _ q2;have w2':aj t (aJ t (p.1-b,p.2)):=w2;have e:=rT hb q1 q2
  have hne:(aJ t (p.1-b,p.2)).1≠0:=fun e0=>by
   have e1:=h00 _ w2' e0;rw[e1]at w3;exact p3 (.inr (bX (by rw[w3];show p.1=p.1-b+b;omega) (by rw[w3])))
  have hge:1≤(aJ t (p.1-b,p.2)).1:=by have:=w2'.1;omega
  have hin:aj (xs++(t.drop 1).map (gD b)) ((aJ t (p.1-b,p.2)).1+b,(aJ t (p.1-b,p.2)).2):=(aj.kN hb).2 (.inr ⟨by show(xs.length:Int)≤(aJ t (p.1-b,p.2)).1+b;omega,by
   rw[show(((aJ t (p.1-b,p.2)).1+b,(aJ t (p.1-b,p.2)).2):aO).1-b=(aJ t (p.1-b,p.2)).1 by show(aJ t (p.1-b,p.2)).1+b-b=_;omega];exact w2'⟩)
  refine⟨p1,?_,?_,?_⟩
  ·rw[e];refine⟨⟨hin,fun k=> ?_⟩,fun k=> ?_⟩
   ·have:=hD _ k;have h2:(aJ t (p.1-b,p.2)).1+b<(xs.length:Nat):=this;omega
   ·rcases k with k|k
    ·have:=hX _ k;have h2:(aJ t (p.1-b,p.2)).1+b<(xs.length:Nat):=this;omega
    ·have e2:aJ t (p.1-b,p.2)=aJ t (0,0):=by
      injection k with k1 k2
      exact bX (by omega) k2
     rw[e2,r3]at w3;injection w3 with w5 w6
     omega
  ·rw[e,rT hb (by show(xs.length:Int)≤(aJ t (p.1-b,p.2)).1+b;omega) (by
    rw[show(((aJ t (p.1-b,p.2)).1+b,(aJ t (p.1-b,p.2)).2):aO).1-b=(aJ t (p.1-b,p.2)).1 by show(aJ t (p.1-b,p.2)).1+b-b=_;omega];exact w2')]
   have e3:((((aJ t (p.1-b,p.2)).1+b,(aJ t (p.1-b,p.2)).2):aO).1-b,(((aJ t (p.1-b,p.2)).1+b,(aJ t (p.1-b,p.2)).2):aO).2)=aJ t (p.1-b,p.2):=bX (by show(aJ t (p.1-b,p.2)).1+b-b=_;omega) rfl;rw[e3,w3];exact bX (by show p.1-b+b=p.1;omega) rfl
  ·rw[e];intro k;refine w4 (bX ?_ ?_)
   ·have:=congrArg Prod.fst k;show(aJ t (p.1-b,p.2)).1=p.1-b;have h2:(aJ t (p.1-b,p.2)).1+b=p.1:=this;omega
   ·have h2:=congrArg Prod.snd k;exact h2
theorem pG(lv:Int)(a:ah):(rX lv a).aD=a.aD:=by unfold rX;cases gQ a.kind<;>rfl
theorem tZ(lv:Int)(t:List ah){i:Int}(h0:0≤i)(h1:i<(t.length:Nat)):au (gF lv t) i=rX lv (au t i):=by
 unfold au elt gF;rw[qC,qY,qC,qB (by omega)];rfl
theorem zX(lv:Int)(t:List ah):(gF lv t).length=t.length:=by unfold gF;rw[qV]
theorem aj.kT{lv:Int}{t:List ah}{p:aO}:aj (gF lv t) p↔aj t p:=by
 unfold aj;rw[zX];constructor
 ·rintro⟨h1,h2,h3,h4⟩;rw[tZ lv t h1 h2,pG]at h4;exact⟨h1,h2,h3,h4⟩
 ·rintro⟨h1,h2,h3,h4⟩;refine⟨h1,h2,h3,?_⟩;rw[tZ lv t h1 h2,pG];exact h4
theorem rU{lv:Int}{t:List ah}{p:aO}(hp:aj t p):aJ (gF lv t) p=aJ t p:=by
 unfold aJ;rw[tZ lv t hp.1 hp.2.1,pG]
theorem gT.shift{lv:Int}{t:List ah}(h:gT (fun p=>aj t p) t):gT (fun p=>aj (gF lv t) p) (gF lv t):=fun p hp=>by
 have hp':=aj.kT.1 hp;obtain⟨h1,h2,h3,h4⟩:=h p hp';rw[rU hp'];exact⟨hp,aj.kT.2 h2,by rw[rU h2,h3],h4⟩
theorem St.expand{bk:List (List ah)}(h:St D xs ys)(k:kY D xs x y)(hD:∀i,D i→i<(xs.length:Nat))(hx:(au xs x).2.2.2.2.length=1)
  (ht:gT (fun p=>aj (fP bk (au xs x).2.2.1) p) (fP bk (au xs x).2.2.1)) (h0:aj (fP bk (au xs x).2.2.1) (0,0)) (h00:∀p,aj (fP bk (au xs x).2.2.1) p→p.1=0→p=(0,0)):
  St (fun i=>D i∨i=x) (vG bk xs x y) (dL (Cc (fP bk (au ys x).2.2.1) (au ys x).2.1 ys y) x):=by
 have ex:au ys x=au xs x:=(h.ag.2 x k.px.1 k.px.2.1 k.lx).symm;have hl:xs.length=ys.length:=h.ag.1;have xl:x<(xs.length:Nat):=k.px.2.1;have yl:y<(xs.length:Nat):=k.py.2.1;have hne:=k.ne;rw[ex];unfold vG Cc tQ;generalize fP bk (au xs x).2.2.1=t at*;generalize (au xs x).2.1=lv;generalize hb:(xs.length:Int)-1=b;have hb':b=(xs.length:Int)-1:=hb.symm
 have e1:Ox lv ((ys.length:Int)-1) t (t.length-1)=((gF lv t).drop 1).map (gD b):=by
  unfold Ox;rw[←hl,hb,qN (by rw[List.length_drop,zX];exact Nat.le_refl _)]
 have s0:=SX.start h k;have s1:=s0.RS (t:=gF lv t) hb' ht.shift (aj.kT.2 h0) (fun p hp e=>h00 p (aj.kT.1 hp) e) hD (fun p hp=>by rcases hp with e|e<;>rw[e]<;>assumption);rw[e1,rU h0]at*;obtain⟨r1,r2,r3,r4⟩:=ht (0,0) h0;have rR:aj t (aJ t (0,0)):=r2
 have rpos:1≤(aJ t (0,0)).1:=by
  have h1:=rR.1
  by_cases e:(aJ t (0,0)).1=0
  ·exact absurd (h00 _ rR e) r4
  ·omega
 generalize aJ t (0,0)=R at*
 have hR:aj (xs++((gF lv t).drop 1).map (gD b)) (R.1+b,R.2):=(aj.kN hb').2 (.inr ⟨by show(xs.length:Int)≤R.1+b;omega,aj.kT.2 (by
  rw[show((R.1+b,R.2):aO).1-b=R.1 by show R.1+b-b=R.1;omega];exact rR)⟩)
 have s2:=s1.link (p:=(y,0)) (q:=(R.1+b,R.2)) k.py.app k.ly (.inl (.inr rfl)) hR (fun e=>by have:=hD _ e;have h2:R.1+b<(xs.length:Nat):=this;omega) (.inr rfl) (bN (.inl (by omega)))
 have e2:bF (ys++((gF lv t).drop 1).map (gD b)) ((ys.length:Int)-1+R.1,R.2) (y,0)=bF (ys++((gF lv t).drop 1).map (gD b)) (y,0) (R.1+b,R.2):=by
  rw[←hl,hb,show b+R.1=R.1+b by omega];refine zD ?_ ?_
  ·have:=(s1.ag.port hR (fun e=>by have:=hD _ e;have h2:R.1+b<(xs.length:Nat):=this;omega)).1;exact this
  ·exact(s1.ag.port (p:=(y,0)) k.py.app k.ly).1
 rw[e2];refine s2.RH k.px.1 fun p hp _=> ?_
 rw[aj.gW]at hp;constructor
 ·rintro⟨(e|e)|e,e3,e4⟩
  ·rw[e]
  ·exact absurd e e3
  ·exact absurd e e4
 ·intro e;rcases(aj.kN hb').1 hp with q|⟨q,_⟩
  ·obtain⟨q1,q2,q3,q4⟩:=q;rw[e]at q4;have h3:p.2<((au xs x).2.2.2.2.length:Nat):=q4;refine⟨.inl (.inl (bX e (by show p.2=0;omega))),fun e2=> ?_,fun e2=> ?_⟩
   ·rw[e2]at e;exact hne e.symm
   ·rw[e2]at e;have h4:R.1+b=x:=e;omega
  ·omega
end
end Go.Tr
namespace Go.Tr
open Go Go.RowKit
def gA(a:ah):ay:=⟨a.1,a.2.1,a.2.2.1,a.2.2.2.1,a.2.2.2.2.map fun p=>⟨p.1,p.2⟩⟩
theorem qz(l:List Int):List.flatMap (enc (.int .i64)) l=l.flatMap aT:=by
 induction l with
 |nil=>rfl
 |cons x l ih=>rw[qU,qU,ih];rfl
theorem I9(l:List aO):(l.map fun p=>(⟨p.1,p.2⟩:aC)).flatMap aC.enc=List.flatMap (enc iO) l:=by
 induction l with
 |nil=>rfl
 |cons x l ih=>rw[List.map_cons,qU,qU,ih];rfl
theorem Kw(a:ah):(gA a).enc=enc bf a:=by
 show[_,_,_,D.sl _ _,D.sl _ _]=[_]++([_]++([_]++([_]++[_])));simp only[List.cons_append,List.nil_append,gA];rw[I9,←qz,qV]
theorem xH(n:Nat)(f:Nat→Bool):bW (n+1) f=(bW n f&&f n):=by simp[bW,List.range_succ]
def Wf(a:ah):Prop:=bP (gA a)=true
theorem fq{a:ah}(h:Wf a):dK a.1 a.2.1=true∧dZ (gA a)=true∧(a.2.2.2.2.length:Int)=bD a.1 (dh a.1 a.2.2.2.2.length)∧0<a.2.2.2.2.length:=by
 unfold Wf bP at h;simp only[qD,qQ,beq_iff_eq]at h;obtain⟨⟨⟨h1,h2⟩,h3⟩,h4⟩:=h;have e:((gA a).aD.length:Int)=(a.2.2.2.2.length:Int):=by simp[gA]
 have e2:fieldsOf (gA a)=dh a.1 a.2.2.2.2.length:=by unfold fieldsOf;rw[e];rfl
 rw[e,e2]at h2;rw[e2]at h1;exact⟨h3,h4,h2,by(have:0<bD a.1 (dh a.1 a.2.2.2.2.length):=h1);omega⟩
theorem IK{a:ah}(h:Wf a):1≤a.1∧a.1≤12:=by
 have:=(fq h).1;unfold dK jV at this;simp only[qD]at this;exact kI this.1
theorem oH{a:ah}(h:Wf a):(a.1=1∨a.1=5∨a.1=6∨a.1=12→a.2.2.2.2.length=1)∧(a.1=8∨a.1=10∨a.1=11→a.2.2.2.2.length=2)∧(a.1=2∨a.1=3∨a.1=4∨a.1=7→a.2.2.2.2.length=3)∧(a.1=9→1≤a.2.2.2.2.length∧a.2.2.2.2.length≤4):=by
 obtain⟨_,_,h3,h4⟩:=fq h;have hf:∀k:Int,k≠9→dh k a.2.2.2.2.length=0:=fun k hk=>by unfold dh;rw[if_neg (by simpa using hk)]
 refine⟨fun e=> ?_,fun e=> ?_,fun e=> ?_,fun e=> ?_⟩
 ·have k9:a.1≠9:=by omega
  rw[hf _ k9]at h3;unfold bD at h3;rw[if_neg k9,if_pos rfl,if_pos e]at h3;omega
 ·have k9:a.1≠9:=by omega
  rw[hf _ k9]at h3;unfold bD at h3;rw[if_neg k9,if_pos rfl,if_neg (by omega),if_pos e]at h3;omega
 ·have k9:a.1≠9:=by omega
  rw[hf _ k9]at h3;unfold bD at h3;rw[if_neg k9,if_pos rfl,if_neg (by omega),if_neg (by omega),if_pos e]at h3;omega
 ·rw[e]at h3;unfold bD dh at h3;simp only[beq_self_eq_true,if_true]at h3
  by_cases hb:cB ((a.2.2.2.2.length:Int)-1) 0 3=true
  ·have:=kI hb;omega
  ·rw[if_neg hb]at h3;omega
theorem mQ{ka la kb lb c:Int}(h:rule ka la kb lb=c)(h0:c≠0):
  (c=1→ka=2∧kb=3)∧(c=2→ka=4∧kb=4)∧(c=3→ka=4)∧(c=4→ka=5)∧(c=5→ka=6∧(kb=7∨kb=8))∧(c=6→(ka=6∧kb=11)∨(ka=9∧kb=10))∧(c=7→ka=12∧(kb=3∨kb=7∨kb=8∨kb=10∨kb=11)):=by
 unfold rule at h;split at h
 ·subst h;simp_all
 split at h
 ·split at h
  ·rename_i h1;simp only[qD,beq_iff_eq]at h1;subst h;simp_all
  ·split at h
   ·subst h;simp_all
   ·omega
 split at h
 ·split at h
  ·rename_i h1;simp only[qD,beq_iff_eq]at h1;subst h;simp_all
  ·omega
 split at h
 ·split at h
  ·rename_i h1;simp only[Bool.or_eq_true,beq_iff_eq]at h1;subst h;simp_all
  ·split at h
   ·rename_i h1;simp only[beq_iff_eq]at h1;subst h;simp_all
   ·omega
 split at h
 ·split at h
  ·rename_i h1;simp only[beq_iff_eq]at h1;subst h;simp_all
  ·omega
 split at h
 ·split at h
  ·rename_i h1;unfold Nz at h1;simp only[Bool.or_eq_true,beq_iff_eq]at h1;subst h;refine⟨by simp,by simp,by simp,by simp,by simp,by simp,fun _=>⟨by assumption,by omega⟩⟩
  ·omega
 ·omega
def sig(a:ah):Int×Int×Int×List Int×Nat:=(a.1,a.2.1,a.2.2.1,a.2.2.2.1,a.2.2.2.2.length)
theorem Gt{a b:ah}(h:sig a=sig b):Wf a↔Wf b:=by
 unfold sig at h;simp only[Prod.mk.injEq]at h;obtain⟨h1,h2,h3,h4,h5⟩:=h
 have e:bP (gA a)=bP (gA b):=by
  unfold bP fieldsOf dZ gA;simp only[qV,h1,h2,h3,h4,h5]
 unfold Wf;rw[e]
def dw(xs ys:List ah):Prop:=xs.length=ys.length∧∀i:Int,0≤i→i<(xs.length:Nat)→sig (au xs i)=sig (au ys i)
theorem dw.refl(xs:List ah):dw xs xs:=⟨rfl,fun _ _ _=>rfl⟩
theorem dw.setPort{xs ys:List ah}(h:dw xs ys)(p q:aO):dw (aN xs p q) ys:=by
 refine⟨by rw[dY];exact h.1,fun i h0 h1=> ?_⟩;rw[dY]at h1;rw[←h.2 i h0 h1,dJ];split
 ·rename_i e;rw[uS (xs:=xs) e.1];unfold sig;simp only[List.length_set,ah.aD]
 ·rfl
theorem dw.link{xs ys:List ah}(h:dw xs ys)(p q:aO):dw (bF xs p q) ys:=(h.setPort p q).setPort q p
theorem dw.move{xs ys:List ah}(h:dw xs ys)(p q:aO):dw (eD xs p q) ys:=h.link _ _
theorem dw.join{xs ys:List ah}(h:dw xs ys)(p q:aO):dw (eU xs p q) ys:=by
 unfold eU;cases ((aJ xs p).1==q.1&&(aJ xs p).2==q.2)with
 |true=>exact h
 |false=>exact h.link _ _
theorem dw.app{xs ys:List ah}(h:dw xs ys)(zs:List ah):dw (xs++zs) (ys++zs):=by
 refine⟨by rw[qA,qA,h.1],fun i h0 h1=> ?_⟩;rw[qA]at h1
 by_cases hl:i<(xs.length:Nat)
 ·rw[dF (by omega),dF (by rw[←h.1];omega)];exact h.2 i h0 hl
 ·have:∀ws:List ah,ws.length=xs.length→au (ws++zs) i=zs.getD (i.toNat-xs.length) (dflt bf):=fun ws hw=>by
   unfold au elt;rw[qC,qL (by omega),hw,qC]
  rw[this xs rfl,this ys h.1.symm]
theorem Ho(y:Int)(xs:List ah):∀k,dw (yh y xs k) (xs++List.replicate k (bJ 5 0 0 [] 1))
 |0=>by rw[List.replicate_zero,qS];exact dw.refl _
 |k+1=>by
  unfold yh;rw[List.replicate_succ',←qF];exact((Ho y xs k).app _).move _ _
theorem DZ(lab c d:Int)(P:List ah):∀k,dw (bL lab c d P k) (P++List.replicate k (bJ 4 lab 0 [] 3))
 |0=>by rw[List.replicate_zero,qS];exact dw.refl _
 |k+1=>by
  unfold bL sI;rw[List.replicate_succ',←qF];exact(((DZ lab c d P k).app _).link _ _).link _ _
theorem Bq{y:Int}{b:Nat}{P Q:List ah}(h:dw P Q):∀k,dw (jr y b P k) Q
 |0=>h
 |k+1=>(Bq h k).move _ _
theorem PI:Wf (bJ 5 0 0 [] 1):=by unfold Wf;decide
theorem IX{k l:Int}(h:dK k l=true):l=0∨(0≤l∧l≤8):=by
 unfold dK at h;simp only[qD,Bool.or_eq_true,beq_iff_eq]at h;rcases h.2 with h|h
 ·exact .inl h
 ·exact .inr (kI h.2)
theorem uU{k l:Int}(hk:k=3∨k=4∨k=8∨k=12)(h:l=0∨(0≤l∧l≤8)):dK k l=true:=by
 have h1:jV k=true:=rD (by omega) (by omega)
 have h2:gQ k=true:=by
  unfold gQ;rw[h1];rcases hk with rfl|rfl|rfl|rfl<;>decide
 unfold dK;rw[h1,h2];rcases h with rfl|h
 ·rfl
 ·rw[show KQ l=true from rD h.1 h.2];simp
theorem Fh{k lv v:Int}{d:List Int}{n:Nat}(h1:dK k lv=true)(h2:dZ (gA (bJ k lv v d n))=true)(h3:(n:Int)=bD k (dh k n))(h4:0<n):Wf (bJ k lv v d n):=by
 unfold Wf bP;have e:((gA (bJ k lv v d n)).aD.length:Int)=(n:Int):=by simp[gA,bJ]
 have e2:fieldsOf (gA (bJ k lv v d n))=dh k n:=by unfold fieldsOf;rw[e];rfl
 rw[e2,e];show(decide (0<bD k (dh k n))&&(n:Int)==bD k (dh k n)&&dK k lv&&dZ (gA (bJ k lv v d n)))=true;rw[←h3,h1,h2];simp only[beq_self_eq_true,Bool.and_true,qQ];omega
theorem PK{lv:Int}(h:lv=0∨(0≤lv∧lv≤8)):Wf (bJ 4 lv 0 [] 3):=Fh (uU (by omega) h) rfl rfl (by decide)
theorem PG{lv:Int}(h:lv=0∨(0≤lv∧lv≤8)):Wf (bJ 3 lv 0 [] 3):=Fh (uU (by omega) h) rfl rfl (by decide)
theorem LW{lv v:Int}(h:lv=0∨(0≤lv∧lv≤8))(hv:iR v=true):Wf (bJ 12 lv v [] 1):=Fh (uU (by omega) h) (by show((((0:Nat):Int)==0)&&iR v)=true;rw[hv];rfl) rfl (by decide)
theorem PL{v:Int}(hv:mI v=true):Wf (bJ 6 0 v [] 1):=Fh (by decide) (by show((((0:Nat):Int)==0)&&mI v)=true;rw[hv];rfl) rfl (by decide)
theorem PN{lv v w:Int}(h:lv=0∨(0≤lv∧lv≤8))(hv:jl v=true)(hw:mI w=true):Wf (bJ 8 lv v [w] 2):=Fh (uU (by omega) h) (by show(((((1:Nat):Int)==1)&&jl v)&&mI (bY [w] 0))=true;rw[hv,show bY [w] 0=w from rfl,hw];rfl) rfl (by decide)
theorem IJ{a:ah}(h:Wf a):Wf (bJ a.1 a.2.1 a.2.2.1 a.2.2.2.1 a.2.2.2.2.length):=(Gt (by unfold sig bJ;simp)).2 h
theorem Dm{a:ah}(h:Wf a):a.2.1=0∨(0≤a.2.1∧a.2.1≤8):=IX (fq h).1
theorem LU{a:ah}(h:Wf a)(k:a.1=6):mI a.2.2.1=true:=by
 have:=(fq h).2.1;unfold dZ gA at this;simp only[k,beq_self_eq_true,if_true,qD]at this;exact this.2
theorem Nr{a:ah}(h:Wf a)(k:a.1=7):jl a.2.2.1=true:=by
 have:=(fq h).2.1;unfold dZ gA at this;simp only[k]at this;simp at this;exact this.2
theorem LV{a:ah}(h:Wf a)(k:a.1=8):a.2.2.2.1.length=1∧jl a.2.2.1=true∧mI (bY a.2.2.2.1 0)=true:=by
 have:=(fq h).2.1;unfold dZ gA at this;simp only[k]at this;simp at this;exact⟨by omega,this.1.2,this.2⟩
theorem G7{l:List Int}(h:ji l=true){i:Int}(h0:0≤i)(h1:i<(l.length:Nat)):iR (sU l i)=true:=by
 unfold ji bW at h;rw[List.all_eq_true]at h;have:=h i.toNat (List.mem_range.2 (by omega));exact this
theorem LQ{a:ah}(h:Wf a)(k:a.1=10):1≤a.2.2.2.1.length∧a.2.2.2.1.length≤4∧ji a.2.2.2.1=true:=by
 have:=(fq h).2.1;unfold dZ gA at this;simp only[k]at this;simp at this;have h2:=kI this.1.2;exact⟨by omega,by omega,this.2⟩
theorem Al{a:ah}(h:Wf a)(k:a.1=11):a.2.2.2.1.length=2∧ji a.2.2.2.1=true:=by
 have:=(fq h).2.1;unfold dZ gA at this;simp only[k]at this;simp at this;exact⟨by omega,this.2⟩
theorem Ak{a:ah}(h:Wf a)(k:a.1=12):0≤a.2.2.1∧a.2.2.1≤23:=by
 have:=(fq h).2.1;unfold dZ gA at this;simp only[k]at this;simp at this;exact kI this.2
theorem Aj{a:ah}(h:Wf a)(k:a.1=9):0≤a.2.2.1∧a.2.2.1≤3:=by
 have:=(fq h).2.1;unfold dZ gA at this;simp only[k]at this;simp at this;exact kI this.2
theorem wf_data{a:ah}(h:Wf a):a.2.2.2.1.length≤4:=by
 have:=(fq h).2.1;unfold dZ gA at this;dsimp only at this;split at this
 ·simp at this;rw[this.1];decide
 split at this
 ·simp at this;rw[this.1];decide
 split at this
 ·simp at this;omega
 split at this
 ·simp at this;rw[this.1];decide
 split at this
 ·simp at this;rw[this.1];decide
 split at this
 ·simp at this;have:=kI this.1.2;omega
 split at this
 ·simp at this;omega
 ·simp at this;rw[this.2];decide
def Mc(D:Int→Prop)(xs:List ah):Prop:=∀i:Int,0≤i→i<(xs.length:Nat)→¬D i→Wf (au xs i)
theorem Mc.grow{D E:Int→Prop}{xs xs' zs:List ah}(h:Mc D xs)(hs:dw xs' (xs++zs))(hz:∀z∈zs,Wf z)(hE:∀i,D i→E i):Mc E xs':=fun i h0 h1 hi=>by
 rw[Gt (hs.2 i h0 h1)]
 by_cases hl:i<(xs.length:Nat)
 ·rw[dF (by omega)];exact h i h0 hl fun k=>hi (hE i k)
 ·have hln:=hs.1;rw[qA]at hln;have hlt:i.toNat-xs.length<zs.length:=by omega
  have e:au (xs++zs) i=zs[i.toNat-xs.length]:=by
   unfold au elt;rw[qC,qL (by omega),qB hlt];rfl
  rw[e];exact hz _ (List.getElem_mem hlt)
structure BkW(bk:List (List ah)):Prop where
 wi:∀v:Int,0≤v→v<(bk.length:Nat)→gT (fun p=>aj (fP bk v) p) (fP bk v)
 r0:∀v:Int,0≤v→v<(bk.length:Nat)→aj (fP bk v) (0,0)
 r1:∀v:Int,0≤v→v<(bk.length:Nat)→∀p,aj (fP bk v) p→p.1=0→p=(0,0)
 wf:∀v:Int,0≤v→v<(bk.length:Nat)→∀i:Int,0≤i→i<((fP bk v).length:Nat)→Wf (au (fP bk v) i)
def xV(bk:List (List ah))(xs:List ah)(c x y:Int):List ah:=
 bif c==3 then[qw xs y]++[qw xs y]++List.replicate ((au xs y).2.2.2.2.length-1) (bJ 4 (au xs x).2.1 0 [] 3)
 else bif c==4 then List.replicate ((au xs y).2.2.2.2.length-1) (bJ 5 0 0 [] 1)
 else bif c==5 then(bif (au xs y).1==7 then[bJ 8 (au xs y).2.1 (au xs y).2.2.1 [(au xs x).2.2.1] 2]else[bJ 6 0 (NK (au xs y).2.2.1 (sU (au xs y).2.2.2.1 0) (au xs x).2.2.1) [] 1])
 else bif c==6 then(bif (au xs x).1==6 then[bJ 12 (au xs y).2.1 (sU (au xs y).2.2.2.1 (bif (au xs x).2.2.1==0 then 1 else 0)) [] 1]
  else[bJ 12 (au xs y).2.1 (sU (au xs y).2.2.2.1 (au xs x).2.2.1) [] 1]++List.replicate ((au xs x).2.2.2.2.length-1) (bJ 3 (au xs y).2.1 0 [] 3))
 else bif c==7 then((tQ bk xs x).drop 1).map (gD ((xs.length:Nat)-1))else[]
section
variable {D:Int→Prop}{xs ys:List ah}{x y:Int}{bk:List (List ah)}
theorem GJ{x:Int}{b:Nat}{P Q:List ah}(h:dw P Q):∀k,dw (DK x b P k) Q
 |0=>h
 |k+1=>(GJ h k).move _ _
theorem GQ(lv:Int)(b:Nat)(P:List ah):∀k,dw (sQ lv b P k) (P++List.replicate k (bJ 3 lv 0 [] 3))
 |0=>by rw[List.replicate_zero,qS];exact dw.refl _
 |k+1=>by
  unfold sQ;rw[List.replicate_succ',←qF];exact((GQ lv b P k).app _).link _ _
theorem Bl{c:Int}(hc:1≤c∧c≤7)(hx:x.toNat<xs.length):dw (nD bk xs c x y) (xs++xV bk xs c x y):=by
 have hcs:c=1∨c=2∨c=3∨c=4∨c=5∨c=6∨c=7:=by omega
 rcases hcs with rfl|rfl|rfl|rfl|rfl|rfl|rfl
 ·show dw (eU (eU xs (x,1) (y,1)) (x,2) (y,2)) (xs++[]);rw[qS];exact((dw.refl xs).join _ _).join _ _
 ·show dw (eU (eU xs (x,1) (y,1)) (x,2) (y,2)) (xs++[]);rw[qS];exact((dw.refl xs).join _ _).join _ _
 ·show dw (iV xs x y) (xs++([qw xs y]++[qw xs y]++List.replicate ((au xs y).2.2.2.2.length-1) (bJ 4 (au xs x).2.1 0 [] 3)));unfold iV Ms dup3
  have e:(au (dup2 xs y) x).2.1=(au xs x).2.1:=by
   unfold dup2;rw[dF (by rw[qA];omega),dF hx]
  rw[←(kZ (x:=x) (by rw[nN];omega) _).1,e];refine Bq ((dw.move ?_ _ _).move _ _) _;rw[←qF,←qF];exact DZ _ _ _ _ _
 ·exact Ho y xs _
 ·show dw (iX xs x y) (xs++(bif (au xs y).1==7 then[bJ 8 (au xs y).2.1 (au xs y).2.2.1 [(au xs x).2.2.1] 2]else[bJ 6 0 (NK (au xs y).2.2.1 (sU (au xs y).2.2.2.1 0) (au xs x).2.2.1) [] 1]));unfold iX;cases (au xs y).1==7 with
  |true=>exact(((dw.refl xs).app _).move _ _).move _ _
  |false=>exact((dw.refl xs).app _).move _ _
 ·show dw (oM xs x y) (xs++(bif (au xs x).1==6 then[bJ 12 (au xs y).2.1 (sU (au xs y).2.2.2.1 (bif (au xs x).2.2.1==0 then 1 else 0)) [] 1]
   else[bJ 12 (au xs y).2.1 (sU (au xs y).2.2.2.1 (au xs x).2.2.1) [] 1]++List.replicate ((au xs x).2.2.2.2.length-1) (bJ 3 (au xs y).2.1 0 [] 3)))
  unfold oM;cases (au xs x).1==6 with
  |true=>exact((dw.refl xs).app _).move _ _
  |false=>
   simp only[qH];rw[←qF];exact(GJ (GQ _ _ _ _) _).move _ _
 ·exact((dw.refl xs).app _).link _ _
theorem KL{c:Int}(h:St D xs ys)(k:kY D xs x y)(hD:∀i,D i→i<(xs.length:Nat))(hw:Mc D xs)(hr:rule (au xs x).1 (au xs x).2.1 (au xs y).1 (au xs y).2.1=c)(hc:1≤c∧c≤7)(hb:BkW bk)(h7:c=7→(au xs x).2.2.1<(bk.length:Nat)):
  St (fun i=>D i∨i∈lS c x y) (nD bk xs c x y) (Ke bk ys c x y):=by
 have wx:=hw x k.px.1 k.px.2.1 k.lx;have wy:=hw y k.py.1 k.py.2.1 k.ly;obtain⟨x1,x2,x3,x4⟩:=oH wx;obtain⟨y1,y2,y3,y4⟩:=oH wy;obtain⟨r1,r2,r3,r4,r5,r6,r7⟩:=mQ hr (by omega)
 have mono:∀{E:Int→Prop} {A B:List ah},(∀i,E i↔D i∨i=x∨i=y)→St (fun i=>D i∨i=x∨i=y) A B→St E A B:=fun {E A B} e s=>by
  have:E=fun i=>D i∨i=x∨i=y:=funext fun i=>propext (e i)
  rw[this];exact s
 have g2:c≠7→∀i,(D i∨i∈lS c x y)↔D i∨i=x∨i=y:=fun hne i=>by
  unfold lS;rw[show(c==7)=false by simpa using hne];simp
 have hcs:c=1∨c=2∨c=3∨c=4∨c=5∨c=6∨c=7:=by omega
 rcases hcs with rfl|rfl|rfl|rfl|rfl|rfl|rfl
 ·obtain⟨a,b⟩:=r1 rfl;exact mono (g2 (by decide)) (h.joins k (x3 (by omega)) (y3 (by omega)))
 ·obtain⟨a,b⟩:=r2 rfl;exact mono (g2 (by decide)) (h.joins k (x3 (by omega)) (y3 (by omega)))
 ·exact mono (g2 (by decide)) (h.duplicate k hD (x3 (by have:=r3 rfl;omega)) (fq wy).2.2.2)
 ·exact mono (g2 (by decide)) (h.erase k hD (x1 (by have:=r4 rfl;omega)))
 ·obtain⟨a,b⟩:=r5 rfl;exact mono (g2 (by decide)) (h.operate k hD (x1 (by omega)) (fun e=>y3 (by omega)) (fun e=>y2 (by omega)))
 ·have q:=r6 rfl;exact mono (g2 (by decide)) (h.choose k hD (by omega) (fun e=>x1 (by omega)) (fq wx).2.2.2 (y2 (by omega)))
 ·obtain⟨a,b⟩:=r7 rfl;have v:=Ak wx a;have e:(fun i=>D i∨i∈lS 7 x y)=fun i=>D i∨i=x:=funext fun i=>propext (by unfold lS;simp)
  rw[e];exact h.expand k hD (x1 (by omega)) (hb.wi _ v.1 (h7 rfl)) (hb.r0 _ v.1 (h7 rfl)) (hb.r1 _ v.1 (h7 rfl))
end
end Go.Tr
namespace Go.Tr
open Go Go.RowKit
theorem wz(x:Int):mI (l8 x)=true:=by
 have h: -2147483648≤IntKind.i32.wrap x∧IntKind.i32.wrap x≤2147483647:=by
  simp only[IntKind.wrap,IntKind.bits,IntKind.signed];simp;omega
 unfold l8;rw[qO _ (by omega)];exact rD h.1 h.2
theorem MQ(o a b:Int):mI (NK o a b)=true:=by
 unfold NK;cases o==1 with
 |true=>exact wz _
 |false=>
 cases o==2 with
 |true=>exact wz _
 |false=>
 cases o==3 with
 |true=>exact wz _
 |false=>
 cases o==4 with
 |true=>
  cases l8 b==0 with
  |true=>rfl
  |false=>exact wz _
 |false=>
 cases o==5 with
 |true=>cases decide (l8 a<l8 b)<;>rfl
 |false=>
 cases o==6 with
 |true=>cases l8 a==l8 b<;>rfl
 |false=>rfl
theorem LX{lv:Int}{a:ah}(h:Wf a)(h0:0≤lv)(h8:(!(gQ a.kind)||decide (a.level+lv≤8))=true):Wf (rX lv a):=by
 unfold rX;cases hl:gQ a.kind with
 |false=>exact h
 |true=>
  have h9:a.2.1+lv≤8:=by
   rw[show ah.kind a=a.1 from rfl]at*;rw[hl]at h8;simpa using h8
  have hp:=fq h;have hlev:=Dm h;unfold Wf bP at h ⊢;simp only[qD]at h ⊢;obtain⟨⟨⟨q1,q2⟩,q3⟩,q4⟩:=h;refine⟨⟨⟨q1,q2⟩,?_⟩,q4⟩;show dK a.1 (a.2.1+lv)=true;have q5:dK a.1 a.2.1=true:=q3;unfold dK at q5 ⊢;simp only[qD,Bool.or_eq_true]at q5 ⊢;exact⟨q5.1,.inr ⟨hl,rD (by omega) h9⟩⟩
theorem Jq(b:Int)(a:ah):sig (gD b a)=sig a:=by unfold sig gD;simp
section
variable {D:Int→Prop}{xs:List ah}{x y:Int}{bk:List (List ah)}
theorem Jh{c:Int}(hw:Mc D xs)(hx:0≤x∧x<(xs.length:Nat))(hy:0≤y∧y<(xs.length:Nat))(lx:¬D x)(ly:¬D y)(hr:rule (au xs x).1 (au xs x).2.1 (au xs y).1 (au xs y).2.1=c)(hc:1≤c∧c≤7)(hb:BkW bk)
  (h6:c=6→(au xs x).1=9→(au xs x).2.2.1<((au xs y).2.2.2.1.length:Nat)) (h7:c=7→(au xs x).2.2.1<(bk.length:Nat)∧yN (au xs x).2.1 (fP bk (au xs x).2.2.1)=true):Mc D (nD bk xs c x y):=by
 have wx:=hw x hx.1 hx.2 lx;have wy:=hw y hy.1 hy.2 ly;have lvx:=Dm wx;have lvy:=Dm wy;obtain⟨r1,r2,r3,r4,r5,r6,r7⟩:=mQ hr (by omega);refine hw.grow (Bl hc (by omega)) ?_ fun i e=>e
 have hcs:c=1∨c=2∨c=3∨c=4∨c=5∨c=6∨c=7:=by omega
 rcases hcs with rfl|rfl|rfl|rfl|rfl|rfl|rfl
 ·intro z hz;cases hz
 ·intro z hz;cases hz
 ·intro z hz;have hz':z∈[qw xs y]++[qw xs y]++List.replicate ((au xs y).2.2.2.2.length-1) (bJ 4 (au xs x).2.1 0 [] 3):=hz;rw[qT,qT,qX]at hz';rcases hz' with(e|e)|e
  ·rw[e];exact IJ wy
  ·rw[e];exact IJ wy
  ·rw[List.eq_of_mem_replicate e];exact PK lvx
 ·intro z hz;have hz':z∈List.replicate ((au xs y).2.2.2.2.length-1) (bJ 5 0 0 [] 1):=hz;rw[List.eq_of_mem_replicate hz'];exact PI
 ·obtain⟨a,b⟩:=r5 rfl;intro z hz;have hz':z∈(bif (au xs y).1==7 then[bJ 8 (au xs y).2.1 (au xs y).2.2.1 [(au xs x).2.2.1] 2]else[bJ 6 0 (NK (au xs y).2.2.1 (sU (au xs y).2.2.2.1 0) (au xs x).2.2.1) [] 1]):=hz;cases hk:(au xs y).1==7 with
  |true=>
   rw[hk,qG,qX]at hz';rw[hz'];exact PN lvy (Nr wy (by simpa using hk)) (LU wx a)
  |false=>
   rw[hk,qH,qX]at hz';rw[hz'];exact PL (MQ _ _ _)
 ·have q:=r6 rfl;intro z hz
  have hz':z∈(bif (au xs x).1==6 then[bJ 12 (au xs y).2.1 (sU (au xs y).2.2.2.1 (bif (au xs x).2.2.1==0 then 1 else 0)) [] 1]
   else[bJ 12 (au xs y).2.1 (sU (au xs y).2.2.2.1 (au xs x).2.2.1) [] 1]++List.replicate ((au xs x).2.2.2.2.length-1) (bJ 3 (au xs y).2.1 0 [] 3)):=hz
  rcases q with⟨a,b⟩|⟨a,b⟩
  ·rw[show((au xs x).1==6)=true by simpa using a,qG,qX]at hz';obtain⟨l2,d⟩:=Al wy b;rw[hz'];refine LW lvy (G7 d ?_ ?_)
   ·cases (au xs x).2.2.1==0<;>decide
   ·rw[l2];cases (au xs x).2.2.1==0<;>decide
  ·rw[show((au xs x).1==6)=false by simp[a],qH,qT,qX]at hz';obtain⟨_,_,d⟩:=LQ wy b;rcases hz' with e|e
   ·rw[e];exact LW lvy (G7 d (Aj wx a).1 (h6 rfl a))
   ·rw[List.eq_of_mem_replicate e];exact PG lvy
 ·obtain⟨a,b⟩:=r7 rfl;obtain⟨v1,v2⟩:=h7 rfl;intro z hz;have hz':z∈((tQ bk xs x).drop 1).map (gD ((xs.length:Nat)-1)):=hz;obtain⟨w,hw1,rfl⟩:=List.mem_map.1 hz';rw[Gt (Jq _ w)];have hw2:=List.mem_of_mem_drop hw1;unfold tQ gF at hw2;obtain⟨u,hu,rfl⟩:=List.mem_map.1 hw2;obtain⟨i,hi,rfl⟩:=List.mem_iff_getElem.1 hu;have hv:=Ak wx a;have wu:=hb.wf _ hv.1 v1 (i:Nat) (by omega) (by omega)
  have e:au (fP bk (au xs x).2.2.1) (i:Nat)=(fP bk (au xs x).2.2.1)[i]:=by
   generalize fP bk (au xs x).2.2.1=t at*;unfold au elt;rw[qK,qC,qB hi];rfl
  rw[e]at wu;refine LX wu (by omega) ?_;unfold yN at v2;exact List.all_eq_true.1 v2 _ hu
theorem KM{c:Int}(hw:Mc D xs)(hx:0≤x∧x<(xs.length:Nat))(hy:0≤y∧y<(xs.length:Nat))(lx:¬D x)(ly:¬D y)(hr:rule (au xs x).1 (au xs x).2.1 (au xs y).1 (au xs y).2.1=c)(hc:1≤c∧c≤7)(hb:BkW bk)
  (h6:c=6→(au xs x).1=9→(au xs x).2.2.1<((au xs y).2.2.2.1.length:Nat)) (h7:c=7→(au xs x).2.2.1<(bk.length:Nat)∧yN (au xs x).2.1 (fP bk (au xs x).2.2.1)=true):Mc (fun i=>D i∨i∈lS c x y) (nD bk xs c x y):=fun i h0 h1 hi=>Jh hw hx hy lx ly hr hc hb h6 h7 i h0 h1 fun e=>hi (.inl e)
end
end Go.Tr
namespace Go.Tr
open Go Go.RowKit
section
variable {D:Int→Prop}{xs ys:List ah}{x y a b:Int}{bk:List (List ah)}
end
end Go.Tr
namespace Go.Tr
open Go Go.RowKit
section
variable {xs:List ah}{a b:Int}{bk:List (List ah)}
theorem uR{t:List ah}{i:Nat}(hi:i<t.length):au t (i:Nat)=t[i]:=by
 unfold au elt;rw[qK,qC,qB hi];rfl
end
end Go.Tr
namespace Go.Tr
open Go Go.RowKit
abbrev tV:=Int×Int×Int×Int×Int
def hasB(xs:List ah)(k:Int):Bool:=bif decide (0≤k)then decide (k<(xs.length:Nat))else false
def Lr(xs:List ah)(kv:List (Int×Bool))(k:Int):Bool:=bif hasB xs k then !(cK false kv k)else false
def Me(xs:List ah)(a b:Int):Bool:=
 bif (bif (bif decide (a<b)then jQ [(elt (dflt iO) (au xs a).2.2.2.2 0).1,(elt (dflt iO) (au xs a).2.2.2.2 0).2] [b,0]else false)then(au xs a).1 !=1 else false)then(au xs b).1 !=1 else false
theorem wS(kv:List (Int×Bool))(i j:Int):cK false (eX kv i true) j=if i=j then true else cK false kv j:=by
 induction kv with
 |nil=>
  simp only[eX,cK]
  by_cases h:i=j
  ·rw[if_pos h,show(i==j)=true by simpa using h];rfl
  ·rw[if_neg h,show(i==j)=false by simpa using h];rfl
 |cons e l ih=>
  obtain⟨k,v⟩:=e;simp only[eX];cases h:k==i with
  |true=>
   have h1:k=i:=by simpa using h
   subst h1;simp only[qG,cK]
   by_cases h2:k=j
   ·rw[if_pos h2,show(k==j)=true by simpa using h2];rfl
   ·rw[if_neg h2,show(k==j)=false by simpa using h2];rfl
  |false=>
   have h1:k≠i:=by simpa using h
   simp only[qH,cK,ih]
   by_cases h2:k=j
   ·subst h2;rw[if_neg (Ne.symm h1),if_neg (Ne.symm h1)]
   ·rw[show(k==j)=false by simpa using h2];rfl
theorem Bn{kv:List (Int×Bool)}(hT:∀e∈kv,e.2=true){i:Int}(h:cK false kv i=false):(eX kv i true).length=kv.length+1:=by
 induction kv with
 |nil=>rfl
 |cons e l ih=>
  obtain⟨k,v⟩:=e;simp only[cK]at h;simp only[eX];cases hk:k==i with
  |true=>
   rw[hk,qG]at h;have:=hT (k,v) (List.mem_cons_self ..);rw[h]at this;cases this
  |false=>
   rw[hk,qH]at h;simp only[qH,qI];rw[ih (fun e he=>hT e (List.mem_cons_of_mem _ he)) h]
theorem H7{kv:List (Int×Bool)}(hT:∀e∈kv,e.2=true)(i:Int):∀e∈eX kv i true,e.2=true:=by
 induction kv with
 |nil=>
  intro e he;simp only[eX,qX]at he;rw[he]
 |cons e l ih=>
  obtain⟨k,v⟩:=e;simp only[eX];cases hk:k==i with
  |true=>
   intro e he;simp only[qG,List.mem_cons]at he;rcases he with rfl|he
   ·rfl
   ·exact hT e (List.mem_cons_of_mem _ he)
  |false=>
   intro e he;simp only[qH,List.mem_cons]at he;rcases he with rfl|he
   ·exact hT _ (List.mem_cons_self ..)
   ·exact ih (fun e he=>hT e (List.mem_cons_of_mem _ he)) e he
def lM(kv:List (Int×Bool)):Nat→Nat
 |0=>0
 |k+1=>bif cK false kv (k:Nat)then lM kv k+1 else lM kv k
theorem wI{kv:List (Int×Bool)}{x:Int}(h0:0≤x)(h:cK false kv x=false):∀n:Nat,lM (eX kv x true) n=lM kv n+(if x<(n:Nat)then 1 else 0)
 |0=>by rw[if_neg (by omega)];rfl
 |n+1=>by
  unfold lM;rw[wS,wI h0 h n]
  by_cases e:x=(n:Nat)
  ·subst e;rw[if_pos rfl,qG,h,qH,if_neg (by omega),if_pos (by omega)]
  ·rw[if_neg e]
   by_cases hl:x<(n:Nat)
   ·rw[if_pos hl,if_pos (by omega)];cases cK false kv (n:Nat)<;>simp only[qG,qH]<;>omega
   ·rw[if_neg hl,if_neg (by omega)];cases cK false kv (n:Nat)<;>simp only[qG,qH]<;>omega
theorem AZ{kv:List (Int×Bool)}{n:Nat}(h:∀i:Int,(n:Int)≤i→cK false kv i=false):∀m:Nat,lM kv (n+m)=lM kv n
 |0=>rfl
 |m+1=>by
  show lM kv ((n+m)+1)=_;unfold lM;rw[h ((n+m:Nat):Int) (by omega),qH];have:=AZ h m;rw[this];cases n<;>rfl
section
variable {P:List ah→Prop}(hl:∀xs p q,P xs→P (bF xs p q))(ha:∀xs zs,P xs→P (xs++zs))
include hl
theorem iJ{xs:List ah}{p q:aO}(h:P xs):P (eD xs p q):=hl _ _ _ h
theorem sK{xs:List ah}{p q:aO}(h:P xs):P (eU xs p q):=by
 unfold eU;cases ((aJ xs p).1==q.1&&(aJ xs p).2==q.2)with
 |true=>exact h
 |false=>exact hl _ _ _ h
theorem tH{y:Int}{b:Nat}{xs:List ah}(h:P xs):∀k,P (jr y b xs k)
 |0=>h
 |k+1=>iJ hl (tH h k)
include ha
theorem vM{x c d:Int}{xs:List ah}(h:P xs):∀k,P (gJ x c d xs k)
 |0=>h
 |k+1=>hl _ _ _ (hl _ _ _ (ha _ _ (vM h k)))
theorem Ej{y:Int}{xs:List ah}(h:P xs):∀k,P (yh y xs k)
 |0=>h
 |k+1=>iJ hl (ha _ _ (Ej h k))
theorem Ei{lv x:Int}{b:Nat}{xs:List ah}(h:P xs):∀k,P (yg lv x b xs k)
 |0=>h
 |k+1=>iJ hl (hl _ _ _ (ha _ _ (Ei h k)))
theorem zy{bk:List (List ah)}{xs:List ah}{c x y:Int}(h:P xs):P (rE bk xs c x y):=by
 unfold rE;cases c==1
 ·cases c==2
  ·cases c==3
   ·cases c==4
    ·cases c==5
     ·cases c==6
      ·cases c==7
       ·exact h
       ·exact hl _ _ _ (ha _ _ h)
      ·show P (vk xs x y);unfold vk;cases (au xs y).1==11
       ·exact iJ hl (Ei hl ha (ha _ _ h) _)
       ·exact iJ hl (ha _ _ h)
     ·show P (iX xs x y);unfold iX;cases (au xs y).1==7
      ·exact iJ hl (ha _ _ h)
      ·exact iJ hl (iJ hl (ha _ _ h))
    ·exact Ej hl ha h _
   ·exact tH hl (iJ hl (iJ hl (vM hl ha (ha _ _ (ha _ _ h)) _))) _
  ·exact sK hl (sK hl h)
 ·exact sK hl (sK hl h)
end
def Dt(i:Int)(ys:List ah):Prop:=i.toNat<ys.length∧au ys i=ND
theorem Dt.set{i:Int}{ys:List ah}(h:Dt i ys)(p q:aO):Dt i (aN ys p q):=by
 refine⟨by rw[dY];exact h.1,?_⟩;rw[dJ];split
 ·rename_i e;rw[uS e.1,h.2];rfl
 ·exact h.2
theorem Dt.inter{i:Int}{ys:List ah}(h:Dt i ys)(bk:List (List ah))(c x y:Int):Dt i (rE bk ys c x y):=
 zy (P:=Dt i) (fun xs p q h=>(h.set p q).set q p) (fun xs zs h=>⟨by rw[qA];have:=h.1;omega,by rw[dF h.1];exact h.2⟩) h
theorem Dt.drop{i:Int}{ys:List ah}(h:Dt i ys)(a:Int):Dt i (dL ys a):=by
 refine⟨by rw[uo];exact h.1,?_⟩;unfold dL;rw[uT];split
 ·rfl
 ·exact h.2
theorem Dt.new{ys:List ah}{a:Int}(h0:0≤a)(h1:a<(ys.length:Nat)):Dt a (dL ys a):=by
 refine⟨by rw[uo];omega,?_⟩;unfold dL;rw[uT,if_pos ⟨rfl,by omega⟩]
theorem Jg{xs:List ah}(bk:List (List ah))(c x y:Int):xs.length≤(rE bk xs c x y).length:=
 zy (P:=fun ws=>xs.length≤ws.length) (fun ws p q h=>by rw[jK];exact h) (fun ws zs h=>by rw[qA];omega) (Nat.le_refl _)
theorem dH.Ql{xs:List ah}{p q:aO}(h:∀r,aj xs r→r≠p→r≠q→aj xs (aJ xs r))(hp:aj xs p)(hq:aj xs q):dH (bF xs p q):=fun r hr=>by
 have hr':=hr.unlink;rw[iA hp hq hr'];split
 ·exact hp.link
 ·rename_i e1;split
  ·exact hq.link
  ·rename_i e2;exact(h r hr' (Ne.symm e2) (Ne.symm e1)).link
section
variable {xs:List ah}{x y c:Int}{bk:List (List ah)}
theorem MJ(hp:IntPre xs c x y)(hA:dH xs)(h0:aj xs (0,0))(hc:1≤c∧c≤7)(hb:BkW bk)(h7:c=7→(0≤(au xs x).2.2.1∧(au xs x).2.2.1<(bk.length:Nat))):dH (nD bk xs c x y):=by
 obtain⟨hx0,hy0,p12,p3,px,py,dy,p5,p6⟩:=hp;have hcs:c=1∨c=2∨c=3∨c=4∨c=5∨c=6∨c=7:=by omega
 rcases hcs with rfl|rfl|rfl|rfl|rfl|rfl|rfl
 ·obtain⟨j1,j2,j3,j4⟩:=p12 (.inl rfl);exact(hA.join j1 j3).join j2.join j4.join
 ·obtain⟨j1,j2,j3,j4⟩:=p12 (.inr rfl);exact(hA.join j1 j3).join j2.join j4.join
 ·obtain⟨hx1,hx2⟩:=p3 rfl;show dH (iV xs x y);have h2A:=Kh (y:=y) hA h0;have hcd:∀i:Nat,i≤(au xs y).2.2.2.2.length-1→aj (dup2 xs y) (((xs.length:Nat):Int),(i:Nat))∧aj (dup2 xs y) (((xs.length+1:Nat):Int),(i:Nat)):=fun i hi=>⟨FE (by omega) (by omega),FH (by omega) (by omega)⟩
  have h3A:dH (dup3 xs x y):=xI h2A (BX h0) _ hcd;have h3:∀{p},aj xs p→aj (dup3 xs x y) p:=fun h=>jD (BX h) _
  have hc0:aj (dup3 xs x y) (((xs.length:Nat):Int),0):=jD (FE (by decide) (by omega)) _;have hd0:aj (dup3 xs x y) (((xs.length+1:Nat):Int),0):=jD (FH (by decide) (by omega)) _;have h4A:dH (Ms xs x y):=(h3A.move (h3 hx1) hc0).move (h3 hx2).move hd0.move;refine vB h4A _ fun i hi=>⟨(h3 ⟨hy0.1,hy0.2,by omega,?_⟩).move.move,?_⟩
  ·show((i:Nat):Int)+1<((au xs y).2.2.2.2.length:Nat);omega
  ·have:=(ze (x:=x) (c:=((xs.length:Nat):Int)) (d:=((xs.length+1:Nat):Int)) (xs:=dup2 xs y) hi).move (p:=(x,1)) (q:=(((xs.length:Nat):Int),0));have:=this.move (p:=(x,2)) (q:=(((xs.length+1:Nat):Int),0));rw[nN]at this;exact this
 ·exact Hg hA h0 _ fun i hi=>⟨hy0.1,hy0.2,by omega,by show((i+1:Nat):Int)<((au xs y).2.2.2.2.length:Nat);omega⟩
 ·obtain⟨j1,j2,j3⟩:=p5 rfl;show dH (iX xs x y);unfold iX;cases hk:(au xs y).1==7 with
  |true=>
   have k7:=j2 (by simpa using hk);exact((hA.add h0 _ _ _ _ _).move j1.app (aj.new (by decide) (by decide))).move k7.app.move (aj.new (by decide) (by decide)).move
  |false=>exact(hA.add h0 _ _ _ _ _).move j1.app (aj.new (by decide) (by decide))
 ·obtain⟨j1,j2,j3⟩:=p6 rfl;show dH (oM xs x y);unfold oM;cases hk:(au xs x).1==6 with
  |true=>exact(hA.add h0 _ _ _ _ _).move j1.app (aj.new (by decide) (by decide))
  |false=>
   simp only[qH];have h1A:dH (gu xs y (au xs x).2.2.1):=hA.add h0 _ _ _ _ _;have h1l:(gu xs y (au xs x).2.2.1).length=xs.length+1:=I6 _ _ _;have h1R:aj (gu xs y (au xs x).2.2.1) (lK (gu xs y (au xs x).2.2.1).length 0):=by rw[h1l];exact aj.new (by decide) (by decide)
   have h1:∀{p},aj xs p→aj (gu xs y (au xs x).2.2.1) p:=fun h=>h.app
   have h2A:=GN (lv:=(au xs y).2.1) h1A (h1 h0) h1R ((au xs x).2.2.2.2.length-1);have hR:=GL (lv:=(au xs y).2.1) h1R ((au xs x).2.2.2.2.length-1);have h2:∀{p},aj xs p→aj (sQ (au xs y).2.1 (gu xs y (au xs x).2.2.1).length (gu xs y (au xs x).2.2.1) ((au xs x).2.2.2.2.length-1)) p:=fun h=>BQ (h1 h) _
   have hxi:∀i:Nat,i<((au xs x).2.2.2.2.length-1)→aj (sQ (au xs y).2.1 (gu xs y (au xs x).2.2.1).length (gu xs y (au xs x).2.2.1) ((au xs x).2.2.2.2.length-1)) (x,((i:Nat):Int)+1)∧aj (sQ (au xs y).2.1 (gu xs y (au xs x).2.2.1).length (gu xs y (au xs x).2.2.1) ((au xs x).2.2.2.2.length-1)) ((((gu xs y (au xs x).2.2.1).length+i:Nat):Int),1):=fun i hi=>
    ⟨h2 ⟨hx0.1,hx0.2,by omega,by show((i:Nat):Int)+1<((au xs x).2.2.2.2.length:Nat);omega⟩,yG (by decide) (by decide) hi⟩
   rw[h1l]at h2A h2 hxi hR;exact(GH h2A _ hxi).move (nu (h2 j1) _) (nu hR _)
 ·obtain⟨v0,v1⟩:=h7 rfl;show dH (vG bk xs x y);unfold vG tQ;have hw:=hb.wi _ v0 v1;have r0:=hb.r0 _ v0 v1;have r1:=hb.r1 _ v0 v1;generalize fP bk (au xs x).2.2.1=t at*;generalize (au xs x).2.1=lv;generalize hbb:(xs.length:Int)-1=b;have hb':b=(xs.length:Int)-1:=hbb.symm;have hws:gT (fun p=>aj (gF lv t) p) (gF lv t):=hw.shift;have r0s:aj (gF lv t) (0,0):=aj.kT.2 r0;have r1s:∀p,aj (gF lv t) p→p.1=0→p=(0,0):=fun p hp e=>r1 p (aj.kT.1 hp) e
  generalize gF lv t=T at*;obtain⟨q1,q2,q3,q4⟩:=hws (0,0) r0s
  have rpos:1≤(aJ T (0,0)).1:=by
   have h1:0≤(aJ T (0,0)).1:=q2.1
   by_cases e:(aJ T (0,0)).1=0
   ·exact absurd (r1s _ q2 e) q4
   ·omega
  have hR:aj (xs++(T.drop 1).map (gD b)) ((aJ T (0,0)).1+b,(aJ T (0,0)).2):=(aj.kN hb').2 (.inr ⟨by show(xs.length:Int)≤(aJ T (0,0)).1+b;omega,by
   rw[show(((aJ T (0,0)).1+b,(aJ T (0,0)).2):aO).1-b=(aJ T (0,0)).1 by show(aJ T (0,0)).1+b-b=_;omega];exact q2⟩)
  have hY:aj xs (y,0):=⟨hy0.1,hy0.2,Int.le_refl 0,by show(0:Int)<((au xs y).2.2.2.2.length:Nat);omega⟩;refine dH.Ql (fun r hr n1 n2=> ?_) hY.app hR;rcases(aj.kN hb').1 hr with q|⟨q,qt⟩
  ·rw[kQ (zF q)];exact(hA r q).app
  ·rw[rT hb' q qt];obtain⟨s1,s2,s3,s4⟩:=hws _ qt
   by_cases e:(aJ T (r.1-b,r.2)).1=0
   ·exfalso;have e2:=r1s _ s2 e;rw[e2]at s3;apply n2;rw[s3];exact bX (by show r.1=r.1-b+b;omega) rfl
   ·have s20:0≤(aJ T (r.1-b,r.2)).1:=s2.1;refine(aj.kN hb').2 (.inr ⟨by show(xs.length:Int)≤(aJ T (r.1-b,r.2)).1+b;omega,?_⟩);rw[show(((aJ T (r.1-b,r.2)).1+b,(aJ T (r.1-b,r.2)).2):aO).1-b=(aJ T (r.1-b,r.2)).1 by show(aJ T (r.1-b,r.2)).1+b-b=_;omega];exact s2
end
end Go.Tr
namespace Go.Tr
open Go Go.RowKit
abbrev Gone(kv:List (Int×Bool)):Int→Prop:=fun i=>cK false kv i=true
theorem Kz(kv:List (Int×Bool))(ks:List Int)(i:Int):Gone (ER kv ks) i↔Gone kv i∨i∈ks:=by
 unfold ER Gone
 induction ks generalizing kv with
 |nil=>simp
 |cons k ks ih=>
  rw[List.foldl_cons,ih,wS,List.mem_cons]
  by_cases h:k=i
  ·rw[if_pos h];simp[h]
  ·rw[if_neg h];constructor
   ·rintro(h1|h1)
    ·exact .inl h1
    ·exact .inr (.inr h1)
   ·rintro(h1|h1|h1)
    ·exact .inl h1
    ·exact absurd h1.symm h
    ·exact .inr h1
theorem QB{kv:List (Int×Bool)}(hT:∀e∈kv,e.2=true)(ks:List Int):∀e∈ER kv ks,e.2=true:=by
 unfold ER
 induction ks generalizing kv with
 |nil=>exact hT
 |cons k ks ih=>rw[List.foldl_cons];exact ih (H7 hT k)
structure Q8(bk:List (List ah)):Prop extends BkW bk where
 rt:∀v:Int,0≤v→v<(bk.length:Nat)→∀i:Int,0<i→i<((fP bk v).length:Nat)→(au (fP bk v) i).1≠1
structure Twin(kv:List (Int×Bool))(xs ys:List ah):Prop where
 st:St (Gone kv) xs ys
 wf:Mc (Gone kv) xs
 dl:∀i,Gone kv i→0≤i∧i<(xs.length:Nat)
 hole:∀i,Gone kv i→Dt i ys
 r1:(au xs 0).1=1
 r0:¬Gone kv 0
 rl:0<xs.length
 uq:∀i:Int,0<i→i<(xs.length:Nat)→¬Gone kv i→(au xs i).1≠1
 kt:∀e∈kv,e.2=true
 kl:kv.length=lM kv xs.length
 al:dH xs
section
variable {kv:List (Int×Bool)}{xs ys:List ah}{a b x y c:Int}{bk:List (List ah)}
theorem Twin.len(h:Twin kv xs ys):xs.length=ys.length:=h.st.ag.1
theorem Twin.at_(h:Twin kv xs ys){i:Int}(h0:0≤i)(h1:i<(xs.length:Nat))(hd:¬Gone kv i):au ys i=au xs i:=(h.st.ag.2 i h0 h1 hd).symm
theorem Twin.p0(h:Twin kv xs ys):aj xs (0,0):=by
 have w:=h.wf 0 (Int.le_refl 0) (by have:=h.rl;omega) h.r0;have:=(fq w).2.2.2;exact⟨Int.le_refl 0,by have:=h.rl;show(0:Int)<_;omega,Int.le_refl 0,by show(0:Int)<((au xs 0).2.2.2.2.length:Nat);omega⟩
theorem kY.symm{D:Int→Prop}(k:kY D xs a b)(h:St D xs ys):kY D xs b a:=by
 obtain⟨_,_,h3,_⟩:=h.wi (a,0) ⟨k.px,k.lx⟩;rw[k.w]at h3;exact⟨k.ne.symm,k.ly,k.lx,k.py,k.px,h3⟩
theorem kY.first{D:Int→Prop}(k:kY D xs a b)(h:St D xs ys):kY D xs (oQ xs a b).1 (oQ xs a b).2:=by
 unfold oQ;cases ou (au xs a).1 (au xs a).2.1 (au xs b).1 (au xs b).2.1==2
 ·exact k
 ·exact k.symm h
theorem oI{u:ah}(w:Wf u):0<u.2.2.2.2.length∧u.2.2.2.2.length≤4:=by
 have k:=IK w;obtain⟨x1,x2,x3,x4⟩:=oH w;refine⟨(fq w).2.2.2,?_⟩
 by_cases h9:u.1=9
 ·exact(x4 h9).2
 ·by_cases h1:u.1=1∨u.1=5∨u.1=6∨u.1=12
  ·rw[x1 h1];decide
  ·by_cases h2:u.1=8∨u.1=10∨u.1=11
   ·rw[x2 h2];decide
   ·rw[x3 (by omega)];decide
theorem H6(wx:Wf (au xs x))(wy:Wf (au xs y))(hx:0≤x∧x<(xs.length:Nat))(hy:0≤y∧y<(xs.length:Nat))(hr:rule (au xs x).1 (au xs x).2.1 (au xs y).1 (au xs y).2.1=c)(hc:1≤c∧c≤7)
  (h6:(au xs x).1=9→(au xs y).1=10→(au xs x).2.2.1<((au xs y).2.2.2.1.length:Nat)):Ma xs c x y:=by
 obtain⟨r1,r2,r3,r4,r5,r6,r7⟩:=mQ hr (by omega);obtain⟨x1,x2,x3,x4⟩:=oH wx;obtain⟨y1,y2,y3,y4⟩:=oH wy;have sx:=oI wx;have sy:=oI wy;have inx:∀s:Int,0≤s→s<((au xs x).2.2.2.2.length:Nat)→aj xs (x,s):=fun s h0 h1=>⟨hx.1,hx.2,h0,h1⟩
 have iny:∀s:Int,0≤s→s<((au xs y).2.2.2.2.length:Nat)→aj xs (y,s):=fun s h0 h1=>⟨hy.1,hy.2,h0,h1⟩
 refine⟨⟨hx,hy,fun e=> ?_,fun e=> ?_,by omega,by omega,by have:=wf_data wy;omega,fun e=> ?_,fun e=> ?_⟩,fun e=>(r5 e).2,fun e=> ?_⟩
 ·have kx:(au xs x).2.2.2.2.length=3:=x3 (by rcases e with e|e;(have:=r1 e;omega);(have:=r2 e;omega));have ky:(au xs y).2.2.2.2.length=3:=y3 (by rcases e with e|e;(have:=r1 e;omega);(have:=r2 e;omega));exact⟨inx 1 (by decide) (by omega),inx 2 (by decide) (by omega),iny 1 (by decide) (by omega),iny 2 (by decide) (by omega)⟩
 ·have kx:(au xs x).2.2.2.2.length=3:=x3 (by have:=r3 e;omega);exact⟨inx 1 (by decide) (by omega),inx 2 (by decide) (by omega)⟩
 ·obtain⟨a1,a2⟩:=r5 e;refine⟨?_,fun k7=> ?_,fun k7=> ?_⟩
  ·rcases a2 with q|q
   ·exact iny 1 (by decide) (by rw[y3 (by omega)];decide)
   ·exact iny 1 (by decide) (by rw[y2 (by omega)];decide)
  ·exact iny 2 (by decide) (by rw[y3 (by omega)];decide)
  ·have:=(LV wy (by omega)).1;omega
 ·refine⟨?_,fun k6=> ?_,fun k6=> ?_⟩
  ·exact iny 1 (by decide) (by rw[y2 (by have:=r6 e;omega)];decide)
  ·exact(Al wy (by have:=r6 e;omega)).1
  ·have q:=r6 e;have k9:(au xs x).1=9:=by omega
   exact⟨(Aj wx k9).1,h6 k9 (by omega)⟩
 ·have q:=r6 e;refine⟨fun k=>(Al wy k).1,fun k=> ?_⟩;have k9:(au xs x).1=9:=by omega
  exact⟨(Aj wx k9).1,h6 k9 (by omega),k9⟩
theorem uj(h:BS (au xs x) (au xs y)=false):(au xs x).1=9→(au xs y).1=10→(au xs x).2.2.1<((au xs y).2.2.2.1.length:Nat):=fun h9 h10=>by
 unfold BS at h;rw[show((au xs x).1==9)=true by simpa using h9,show((au xs y).1==10)=true by simpa using h10]at h;simp only[qG,qP]at h;omega
theorem Jr(hy:(au xs y).1≠1)(hc:1≤c∧c≤7)(hb:Q8 bk)(h7:c=7→(0≤(au xs x).2.2.1∧(au xs x).2.2.1<(bk.length:Nat))):∀z∈xV bk xs c x y,z.1≠1:=by
 have hcs:c=1∨c=2∨c=3∨c=4∨c=5∨c=6∨c=7:=by omega
 intro z hz;rcases hcs with rfl|rfl|rfl|rfl|rfl|rfl|rfl
 ·cases hz
 ·cases hz
 ·have hz':z∈[qw xs y]++[qw xs y]++List.replicate ((au xs y).2.2.2.2.length-1) (bJ 4 (au xs x).2.1 0 [] 3):=hz;rw[qT,qT,qX]at hz';rcases hz' with(e|e)|e
  ·rw[e];exact hy
  ·rw[e];exact hy
  ·rw[List.eq_of_mem_replicate e];intro k;cases k
 ·have hz':z∈List.replicate ((au xs y).2.2.2.2.length-1) (bJ 5 0 0 [] 1):=hz;rw[List.eq_of_mem_replicate hz'];intro k;cases k
 ·have hz':z∈(bif (au xs y).1==7 then[bJ 8 (au xs y).2.1 (au xs y).2.2.1 [(au xs x).2.2.1] 2]else[bJ 6 0 (NK (au xs y).2.2.1 (sU (au xs y).2.2.2.1 0) (au xs x).2.2.1) [] 1]):=hz;cases hk:(au xs y).1==7 with
  |true=>rw[hk,qG,qX]at hz';rw[hz'];intro k;cases k
  |false=>rw[hk,qH,qX]at hz';rw[hz'];intro k;cases k
 ·have hz':z∈(bif (au xs x).1==6 then[bJ 12 (au xs y).2.1 (sU (au xs y).2.2.2.1 (bif (au xs x).2.2.1==0 then 1 else 0)) [] 1]
   else[bJ 12 (au xs y).2.1 (sU (au xs y).2.2.2.1 (au xs x).2.2.1) [] 1]++List.replicate ((au xs x).2.2.2.2.length-1) (bJ 3 (au xs y).2.1 0 [] 3)):=hz
  cases hk:(au xs x).1==6 with
  |true=>rw[hk,qG,qX]at hz';rw[hz'];intro k;cases k
  |false=>
   rw[hk,qH,qT,qX]at hz';rcases hz' with e|e
   ·rw[e];intro k;cases k
   ·rw[List.eq_of_mem_replicate e];intro k;cases k
 ·obtain⟨v0,v1⟩:=h7 rfl;have hz':z∈((tQ bk xs x).drop 1).map (gD ((xs.length:Nat)-1)):=hz;obtain⟨w,hw,rfl⟩:=List.mem_map.1 hz';unfold tQ gF at hw;rw[←List.map_drop]at hw;obtain⟨u,hu,rfl⟩:=List.mem_map.1 hw;obtain⟨i,hi,rfl⟩:=List.mem_iff_getElem.1 hu;have hrt:=hb.rt _ v0 v1;generalize fP bk (au xs x).2.2.1=t at*;rw[List.length_drop]at hi;rw[List.getElem_drop];have:=hrt ((1+i:Nat):Int) (by omega) (by omega);rw[uR (by omega)]at this;show(rX _ t[1+i]).1≠1;unfold rX;cases gQ (t[1+i]).kind
  ·exact this
  ·exact this
theorem Twin.next(h:Twin kv xs ys)(k:kY (Gone kv) xs x y)(hb:Q8 bk)(rx:(au xs x).1≠1)(ry:(au xs y).1≠1)(hr:rule (au xs x).1 (au xs x).2.1 (au xs y).1 (au xs y).2.1=c)(hc:1≤c∧c≤7)(hcl:BS (au xs x) (au xs y)=false)
  (h7:c=7→(au xs x).2.2.1<(bk.length:Nat)∧yN (au xs x).2.1 (fP bk (au xs x).2.2.1)=true):Ma xs c x y∧Ma ys c x y∧(c=7→0≤(au xs x).2.2.1)∧Twin (ER kv (lS c x y)) (nD bk xs c x y) (Ke bk ys c x y)∧(nD bk xs c x y).length=xs.length+(xV bk xs c x y).length:=by
 have hx:0≤x∧x<(xs.length:Nat):=⟨k.px.1,k.px.2.1⟩;have hy:0≤y∧y<(xs.length:Nat):=⟨k.py.1,k.py.2.1⟩;have wx:=h.wf x hx.1 hx.2 k.lx;have wy:=h.wf y hy.1 hy.2 k.ly;have sp:=H6 wx wy hx hy hr hc (uj hcl);have ex:=h.at_ hx.1 hx.2 k.lx;have ey:=h.at_ hy.1 hy.2 k.ly;have sy:Ma ys c x y:=H6 (by rw[ex];exact wx) (by rw[ey];exact wy) (by rw[←h.len];exact hx) (by rw[←h.len];exact hy) (by rw[ex,ey];exact hr) hc (uj (by rw[ex,ey];exact hcl));have v0:c=7→0≤(au xs x).2.2.1:=fun e=>(Ak wx ((mQ hr (by omega)).2.2.2.2.2.2 e).1).1
 have sg:=Bl (bk:=bk) (xs:=xs) (x:=x) (y:=y) hc (by omega);have hln:(nD bk xs c x y).length=xs.length+(xV bk xs c x y).length:=by rw[sg.1,qA]
 have gr:∀i,Gone (ER kv (lS c x y)) i↔Gone kv i∨i∈lS c x y:=fun i=>Kz kv _ i
 have ge:Gone (ER kv (lS c x y))=fun i=>Gone kv i∨i∈lS c x y:=funext fun i=>propext (gr i)
 have gxy:∀i,i∈lS c x y→i=x∨i=y:=fun i hi=>by
  unfold lS at hi;cases hq:c==7 with
  |true=>rw[hq,qG,qX]at hi;exact .inl hi
  |false=>rw[hq,qH]at hi;simpa using hi
 have nx:x≠0:=fun e=>rx (by rw[e];exact h.r1)
 have ny:y≠0:=fun e=>ry (by rw[e];exact h.r1)
 have ksig:∀i:Int,0≤i→i<(xs.length:Nat)→(au (nD bk xs c x y) i).1=(au xs i).1:=fun i i0 i1=>by
  have:=sg.2 i i0 (by rw[hln];omega);rw[dF (by omega)]at this;exact congrArg (fun s:Int×Int×Int×List Int×Nat=>s.1) this
 refine⟨sp,sy,v0,?_,hln⟩;refine⟨?_,?_,?_,?_,?_,?_,by omega,?_,QB h.kt _,?_,MJ sp.toIntPre h.al h.p0 hc hb.toBkW fun e=>⟨v0 e,(h7 e).1⟩⟩
 ·rw[ge];exact KL h.st k (fun i hi=>(h.dl i hi).2) h.wf hr hc hb.toBkW fun e=>(h7 e).1
 ·rw[ge];exact KM h.wf hx hy k.lx k.ly hr hc hb.toBkW (fun e e9=>by
   have q:=(mQ hr (by omega)).2.2.2.2.2.1 e;exact uj hcl e9 (by omega)) h7
 ·intro i hi;rcases(gr i).1 hi with e|e
  ·have:=h.dl i e;omega
  ·rcases gxy i e with e|e<;>omega
 ·intro i hi;unfold Ke;have hl:=h.len;have hle:=Jg (xs:=ys) bk c x y;have n1:Dt x (dL (rE bk ys c x y) x):=Dt.new hx.1 (by omega);have n2:Dt y (dL (dL (rE bk ys c x y) x) y):=Dt.new hy.1 (by rw[uo];omega);rcases(gr i).1 hi with e|e
  ·have q:=(h.hole i e).inter bk c x y;cases c==7
   ·exact(q.drop x).drop y
   ·exact q.drop x
  ·unfold lS at e;cases hq:c==7 with
   |true=>rw[hq,qG,qX]at e;rw[e];exact n1
   |false=>
    rw[hq,qH]at e;have e2:i=x∨i=y:=by simpa using e
    rcases e2 with e2|e2
    ·rw[e2];exact n1.drop y
    ·rw[e2];exact n2
 ·rw[ksig 0 (Int.le_refl 0) (by have:=h.rl;omega)];exact h.r1
 ·intro e;rcases(gr 0).1 e with e|e
  ·exact h.r0 e
  ·rcases gxy 0 e with e|e
   ·exact nx e.symm
   ·exact ny e.symm
 ·intro i i0 i1 hi;have hi2:¬Gone kv i:=fun e=>hi ((gr i).2 (.inl e))
  by_cases hl:i<(xs.length:Nat)
  ·rw[ksig i (by omega) hl];exact h.uq i i0 hl hi2
  ·have:=sg.2 i (by omega) i1;have hlt:i.toNat-xs.length<(xV bk xs c x y).length:=by omega
   have e:au (xs++xV bk xs c x y) i=(xV bk xs c x y)[i.toNat-xs.length]:=by
    unfold au elt;rw[qC,qL (by omega),qB hlt];rfl
   rw[e]at this;have k1:(au (nD bk xs c x y) i).1=((xV bk xs c x y)[i.toNat-xs.length]).1:=congrArg (fun s:Int×Int×Int×List Int×Nat=>s.1) this;rw[k1];exact Jr ry hc hb (fun e=>⟨v0 e,(h7 e).1⟩) _ (List.getElem_mem hlt)
 ·have gf:∀{kv:List (Int×Bool)} {i:Int},¬Gone kv i→cK false kv i=false:=fun {kv i} hi=>by
   cases hq:cK false kv i with
   |true=>exact absurd hq hi
   |false=>rfl
  have c1:lM (eX kv x true) xs.length=lM kv xs.length+1:=by rw[wI hx.1 (gf k.lx),if_pos hx.2]
  have l1:(eX kv x true).length=kv.length+1:=Bn h.kt (gf k.lx);have y1:cK false (eX kv x true) y=false:=by rw[wS,if_neg k.ne];exact gf k.ly
  have c2:lM (eX (eX kv x true) y true) xs.length=lM kv xs.length+2:=by rw[wI hy.1 y1,if_pos hy.2,c1]
  have l2:(eX (eX kv x true) y true).length=kv.length+2:=by rw[Bn (H7 h.kt x) y1,l1]
  have hn:∀i:Int,(xs.length:Int)≤i→cK false (ER kv (lS c x y)) i=false:=fun i hi=>gf fun e=>by
   rcases(gr i).1 e with e|e
   ·have:=h.dl i e;omega
   ·rcases gxy i e with e|e<;>omega
  rw[hln,AZ hn];have hk:=h.kl;unfold lS;cases c==7
  ·show(eX (eX kv x true) y true).length=lM (eX (eX kv x true) y true) xs.length;omega
  ·show(eX kv x true).length=lM (eX kv x true) xs.length;omega
end
end Go.Tr
namespace Go.Tr
open Go Go.RowKit
structure L6(bk:List (List ah)):Prop extends Q8 bk where
 tl:∀v:Int,0≤v→v<(bk.length:Nat)→(fP bk v).length≤600
 bl:bk.length≤1000
section
variable {bk:List (List ah)}
theorem DC{v:Int}(h:¬(0≤v∧v<(bk.length:Nat)))(h0:0≤v):fP bk v=[]:=by
 unfold fP elt;rw[qC,List.getElem?_eq_none (by omega)];rfl
theorem yQ{xs:List ah}{i:Nat}(h:xs.length≤i):au xs (i:Nat)=dflt bf:=by
 unfold au elt;rw[qC,qK,List.getElem?_eq_none h];rfl
theorem L6.len(h:L6 bk)(v:Nat):(fP bk (v:Nat)).length≤600:=by
 by_cases hv:0≤((v:Nat):Int)∧((v:Nat):Int)<(bk.length:Nat)
 ·exact h.tl _ hv.1 hv.2
 ·rw[DC hv (by omega)];decide
theorem L6.ag(h:L6 bk)(v j:Nat):(0≤(au (fP bk (v:Nat)) (j:Nat)).2.1∧(au (fP bk (v:Nat)) (j:Nat)).2.1≤8)∧(au (fP bk (v:Nat)) (j:Nat)).2.2.2.1.length≤4∧(au (fP bk (v:Nat)) (j:Nat)).2.2.2.2.length≤4:=by
 by_cases hv:0≤((v:Nat):Int)∧((v:Nat):Int)<(bk.length:Nat)
 ·by_cases hj:j<(fP bk (v:Nat)).length
  ·have w:=h.wf _ hv.1 hv.2 (j:Nat) (by omega) (by omega);have h1:=Dm w;exact⟨by omega,wf_data w,(oI w).2⟩
  ·rw[yQ (by omega)];decide
 ·rw[DC hv (by omega),yQ (Nat.zero_le _)];decide
theorem L6.small(h:L6 bk)(v:Nat):fO (fP bk (v:Nat)):=by
 refine⟨by have:=h.len v;omega,fun i=> ?_⟩;have:=(h.ag v i).2;exact⟨by show(au (fP bk (v:Nat)) (i:Nat)).2.2.2.1.length≤1048576;omega,by show(au (fP bk (v:Nat)) (i:Nat)).2.2.2.2.length≤1048576;omega⟩
theorem L6.ok(h:L6 bk):JI bk:=fun v j=>(h.ag v j).1
end
end Go.Tr
namespace Go.Tr
open Go Go.RowKit
theorem dw.maps{xs ys:List ah}(h:dw xs ys):xs.map sig=ys.map sig:=by
 apply List.ext_getElem?;intro i;rw[qY,qY]
 by_cases hi:i<xs.length
 ·have:=h.2 (i:Nat) (by omega) (by omega);have hj:i<ys.length:=by rw[←h.1];exact hi
  rw[uR hi,uR hj]at this;rw[qB hi,qB hj,Option.map_some,Option.map_some,this]
 ·rw[List.getElem?_eq_none (by omega),List.getElem?_eq_none (by rw[←h.1];omega)]
section
variable {bk:List (List ah)}{xs:List ah}{x y c:Int}{u v u' v' a b:ah}
end
end Go.Tr
namespace Go.Tr
open Go Go.RowKit
def gN(xs:List ah):aG:=⟨xs.map gA⟩
theorem MF(xs:List ah):(xs.map gA).flatMap ay.enc=List.flatMap (enc bf) xs:=by
 induction xs with
 |nil=>rfl
 |cons x l ih=>rw[List.map_cons,qU,qU,ih,Kw]
theorem Cq(xs:List ah):(gN xs).enc=enc fG xs:=by
 show[D.sl (xs.map gA).length ((xs.map gA).flatMap ay.enc)]=[D.sl _ _];rw[MF,qV]
theorem Ky(bk:List (List ah)):(bk.map gN).flatMap aG.enc=List.flatMap (enc fG) bk:=by
 induction bk with
 |nil=>rfl
 |cons x l ih=>rw[List.map_cons,qU,qU,ih,Cq]
theorem HV(xs:List ah)(i:Nat):fB (xs.map gA) i=gA (au xs (i:Nat)):=by
 unfold fB au elt;rw[qK,qC,qC,qY];cases xs[i]? <;>rfl
def gP(p:aO):aC:=⟨p.1,p.2⟩
theorem NC(ps:List aO)(k:Nat):iB (ps.map gP) k=gP (elt (dflt iO) ps (k:Nat)):=by
 unfold iB elt;rw[qK,qC,qC,qY];cases ps[k]? <;>rfl
theorem zo(a:ah):(gA a).aD=a.2.2.2.2.map gP:=rfl
theorem OC{p q:aO}(h:gP p=gP q):p=q:=by
 have h1:=congrArg aC.agent h;have h2:=congrArg aC.slot h;exact Prod.ext h1 h2
theorem F9{xs:List ah}{p:aO}(h:fQ (xs.map gA) (gP p)=true):aj xs p:=by
 unfold fQ at h;rw[qD,HV,zo]at h;have h1:=kI h.1;have h2:=kI h.2;rw[qV]at h1 h2;have e1:(gP p).agent=p.1:=rfl;have e2:(gP p).slot=p.2:=rfl;rw[e1]at h1 h2;rw[e2]at h2;have e3:((p.1.toNat:Nat):Int)=p.1:=by omega
 rw[e3]at h2;exact⟨by omega,by omega,by omega,by show p.2<((au xs p.1).2.2.2.2.length:Nat);omega⟩
structure Du(xs:List ah):Prop where
 l1:1≤xs.length
 l2:xs.length≤600
 wf:∀i:Int,0≤i→i<(xs.length:Nat)→Wf (au xs i)
 rt:∀i:Int,0≤i→i<(xs.length:Nat)→((au xs i).1=1↔i=0)
 wi:gT (fun p=>aj xs p) xs
theorem vQ{xs:List ah}(h:eY (gN xs)=true):Du xs:=by
 unfold eY at h;have hag:(gN xs).agents=xs.map gA:=rfl;rw[qD,hag,qV]at h;obtain⟨h1,h2⟩:=h;unfold dG at h1;rw[qD,qV]at h1;obtain⟨h3,h4⟩:=h1;have h3:=kI h3;have ha:∀i:Nat,i<xs.length→fC (xs.map gA) i=true:=fun i hi=>iF h4 hi
 have hk:∀i:Nat,i<xs.length→Wf (au xs (i:Nat))∧((au xs (i:Nat)).1=1↔i=0):=fun i hi=>by
  have:=ha i hi;unfold fC at this;rw[HV,qD]at this;refine⟨this.1,?_⟩;have h5:=this.2;have e:(gA (au xs (i:Nat))).kind=(au xs (i:Nat)).1:=rfl;rw[e,beq_iff_eq,Bool.eq_iff_iff,beq_iff_eq,beq_iff_eq]at h5;omega
 refine⟨by omega,by omega,fun i h0 h1=> ?_,fun i h0 h1=> ?_,?_⟩
 ·have:=(hk i.toNat (by omega)).1
  rwa[show((i.toNat:Nat):Int)=i by omega]at this
 ·have:=(hk i.toNat (by omega)).2;rw[show((i.toNat:Nat):Int)=i by omega]at this;rw[this];omega
 ·rintro⟨a,s⟩ ⟨p1,p2,p3,p4⟩;have q1:0≤a:=p1;have q2:a<(xs.length:Nat):=p2;have q3:0≤s:=p3;have q4:s<((au xs a).2.2.2.2.length:Nat):=p4;have ea:((a.toNat:Nat):Int)=a:=by omega
  have es:((s.toNat:Nat):Int)=s:=by omega
  have hw:lZ (xs.map gA) a.toNat=true:=iF h2 (by omega);unfold lZ at hw;rw[HV,ea,zo,qV]at hw;have hw2:=iF hw (k:=s.toNat) (by omega);unfold lT at hw2;rw[NC,es]at hw2;have ge:(⟨((a.toNat:Nat):Int),((s.toNat:Nat):Int)⟩:aC)=gP (a,s):=by rw[ea,es];rfl
  simp only[qD,Bool.not_eq_true']at hw2;obtain⟨⟨w1,w2⟩,w3⟩:=hw2;have w1:=uw w1;have w3:=kG w3;have hin:=F9 w2;have hpe:aJ xs (a,s)=elt (dflt iO) (au xs a).2.2.2.2 s:=rfl;rw[←hpe]at w1 w3 hin;refine⟨⟨p1,p2,p3,p4⟩,hin,?_,fun e=>w1 (by rw[e];rfl)⟩;generalize aJ xs (a,s)=r at*;unfold mM at w3;have er:(gP r).agent=r.1:=rfl;have er2:(gP r).slot=r.2:=rfl;have hr0:=hin.1;have hr2:=hin.2.2.1;rw[er,er2,HV,zo,NC,show((r.1.toNat:Nat):Int)=r.1 by omega,show((r.2.toNat:Nat):Int)=r.2 by omega]at w3
  exact OC (q:=(a,s)) w3
theorem JY(bk:List (List ah))(k:Nat):jk (bk.map gN) k=gN (fP bk (k:Nat)):=by
 unfold jk fP elt;rw[qK,qC,qC,qY];cases bk[k]? <;>rfl
theorem DF{bk:List (List ah)}(h:ig (bk.map gN)=true):L6 bk∧bk.length≤24:=by
 unfold ig at h;rw[qD,qV]at h
 have hl:bk.length≤24:=by
  have:=of_decide_eq_true h.1;omega
 have hn:∀v:Int,0≤v→v<(bk.length:Nat)→Du (fP bk v):=fun v h0 h1=>by
  have:=iF h.2 (k:=v.toNat) (by omega);rw[JY,show((v.toNat:Nat):Int)=v by omega]at this;exact vQ this
 refine⟨⟨⟨⟨fun v h0 h1=>(hn v h0 h1).wi,fun v h0 h1=> ?_,fun v h0 h1 p hp e=> ?_,fun v h0 h1=>(hn v h0 h1).wf⟩,fun v h0 h1 i i0 i1 e=> ?_⟩,fun v h0 h1=>(hn v h0 h1).l2,by omega⟩,hl⟩
 ·have N:=hn v h0 h1;have hl1:=N.l1;have:=(oI (N.wf 0 (Int.le_refl 0) (by omega))).1;exact⟨Int.le_refl 0,by show(0:Int)<((fP bk v).length:Nat);omega,Int.le_refl 0,by show(0:Int)<((au (fP bk v) 0).2.2.2.2.length:Nat);omega⟩
 ·have N:=hn v h0 h1;have hl1:=N.l1;have w:=N.wf 0 (Int.le_refl 0) (by omega);have hk:=(N.rt 0 (Int.le_refl 0) (by omega)).2 rfl;have hp1:=(oH w).1 (.inl hk);obtain⟨_,_,p3,p4⟩:=hp;rw[e]at p4;have p4':p.2<((au (fP bk v) 0).2.2.2.2.length:Nat):=p4;exact Prod.ext e (by show p.2=0;omega)
 ·have:=((hn v h0 h1).rt i (by omega) i1).1 e;omega
def RZ(f:Int→Int)(p:aO):aO:=(f p.1,p.2)
def QD(f:Int→Int)(a:ah):ah:=(a.1,a.2.1,a.2.2.1,a.2.2.2.1,a.2.2.2.2.map (RZ f))
def xQ(ys:List ah)(i:Nat):Bool:=(au ys (i:Nat)).1 !=0
def y8(ys:List ah):Nat→Nat
 |0=>0
 |k+1=>bif xQ ys k then y8 ys k+1 else y8 ys k
def OV(ys:List ah)(x:Int):Int:=((y8 ys x.toNat:Nat):Int)
def rQ(ys:List ah):Nat→List ah
 |0=>[]
 |k+1=>bif xQ ys k then rQ ys k++[QD (OV ys) (au ys (k:Nat))]else rQ ys k
def NM(ys:List ah):List ah:=rQ ys ys.length
def jv(kv:List (Int×Bool)):Nat→List Int
 |0=>[]
 |k+1=>bif !(cK false kv ((k:Nat):Int))then jv kv k++[((k:Nat):Int)]else jv kv k
def Nf(ord:List Int):Nat→List (Int×Int)
 |0=>[]
 |i+1=>eX (Nf ord i) (elt 0 ord ((i:Nat):Int)) ((i:Nat):Int)
def QM(ord:List Int)(x:Int):Int:=cK 0 (Nf ord ord.length) x
def Ip(xs:List ah)(ord:List Int):Nat→List ah
 |0=>[]
 |i+1=>Ip xs ord i++[QD (QM ord) (au xs (elt 0 ord ((i:Nat):Int)))]
theorem Jj{α:Type}(d:α)(kv:List (Int×α))(i j:Int)(x:α):cK d (eX kv i x) j=if i=j then x else cK d kv j:=by
 induction kv with
 |nil=>
  unfold eX cK
  by_cases h:i=j
  ·rw[if_pos h,show(i==j)=true by simpa using h];rfl
  ·rw[if_neg h,show(i==j)=false by simpa using h];rfl
 |cons e kv ih=>
  obtain⟨k,v⟩:=e;unfold eX
  by_cases h:k=i
  ·rw[show(k==i)=true by simpa using h,qG];unfold cK;subst h
   by_cases h2:k=j
   ·rw[if_pos h2,show(k==j)=true by simpa using h2];rfl
   ·rw[if_neg h2,show(k==j)=false by simpa using h2];rfl
  ·rw[show(k==i)=false by simpa using h,qH]
   conv=>lhs;unfold cK
   conv=>rhs;unfold cK
   by_cases h2:k=j
   ·rw[show(k==j)=true by simpa using h2,qG,qG,if_neg (by omega)]
   ·rw[show(k==j)=false by simpa using h2,qH,qH,ih]
theorem ES(xs:List ah)(ord:List Int):∀i:Nat,i≤ord.length→Ip xs ord i=(ord.take i).map fun k=>QD (QM ord) (au xs k)
 |0,_=>by rw[List.take_zero];rfl
 |i+1,h=>by
  unfold Ip;rw[ES xs ord i (by omega),List.take_add_one,qZ,qB (by omega)];unfold elt;rw[qK,qC,qB (by omega)];rfl
section
variable {kv:List (Int×Bool)}{xs ys:List ah}
theorem Twin.xQ(h:Twin kv xs ys){k:Nat}(hk:k<xs.length):xQ ys k= !(cK false kv ((k:Nat):Int)):=by
 unfold Tr.xQ;cases hg:cK false kv ((k:Nat):Int)with
 |true=>
  rw[(h.hole _ hg).2];rfl
 |false=>
  have hd:¬Gone kv ((k:Nat):Int):=fun e=>by
   have e':cK false kv ((k:Nat):Int)=true:=e;rw[hg]at e';cases e'
  rw[h.at_ (by omega) (by omega) hd];have:=IK (h.wf (k:Nat) (by omega) (by omega) hd);simp;omega
theorem Twin.ord(h:Twin kv xs ys):∀n:Nat,n≤xs.length→(jv kv n).length=y8 ys n∧(∀j:Nat,j<(jv kv n).length→∃x:Nat,x<n∧(jv kv n)[j]? =some ((x:Nat):Int)∧y8 ys x=j∧cK false kv ((x:Nat):Int)=false)∧
  (∀x:Nat,x<n→cK false kv ((x:Nat):Int)=false→(jv kv n)[y8 ys x]? =some ((x:Nat):Int))
 |0,_=>⟨rfl,fun j hj=>absurd hj (Nat.not_lt_zero _),fun x hx=>absurd hx (Nat.not_lt_zero _)⟩
 |n+1,hn=>by
  obtain⟨h1,h2,h3⟩:=h.ord n (by omega);have hl:=h.xQ (k:=n) (by omega);have eo:jv kv (n+1)=bif !(cK false kv ((n:Nat):Int))then jv kv n++[((n:Nat):Int)]else jv kv n:=rfl
  have ec:y8 ys (n+1)=bif Tr.xQ ys n then y8 ys n+1 else y8 ys n:=rfl
  rw[eo,ec,hl];cases hg:cK false kv ((n:Nat):Int)with
  |true=>
   simp only[Bool.not_true,qH];refine⟨h1,fun j hj=> ?_,fun x hx hx2=> ?_⟩
   ·obtain⟨x,k1,k2,k3,k4⟩:=h2 j hj;exact⟨x,by omega,k2,k3,k4⟩
   ·refine h3 x ?_ hx2
    by_cases e:x=n
    ·rw[e,hg]at hx2;cases hx2
    ·omega
  |false=>
   simp only[Bool.not_false,qG];refine⟨by rw[qA,h1];rfl,fun j hj=> ?_,fun x hx hx2=> ?_⟩
   ·rw[qA,qJ]at hj
    by_cases hj2:j<(jv kv n).length
    ·obtain⟨x,k1,k2,k3,k4⟩:=h2 j hj2;exact⟨x,by omega,by rw[qM hj2];exact k2,k3,k4⟩
    ·have hj3:j=(jv kv n).length:=by omega
     exact⟨n,by omega,by rw[hj3,qL (Nat.le_refl _),Nat.sub_self];rfl,by rw[hj3,h1],hg⟩
   ·by_cases e:x=n
    ·subst e;rw[←h1,qL (Nat.le_refl _),Nat.sub_self];rfl
    ·have k:=h3 x (by omega) hx2;have:=(qE.1 k).1;rw[qM this];exact k
theorem Twin.N8(h:Twin kv xs ys):∀i:Nat,i≤(jv kv xs.length).length→∀j:Nat,j<i→cK 0 (Nf (jv kv xs.length) i) (elt 0 (jv kv xs.length) ((j:Nat):Int))=((j:Nat):Int)
 |0,_,j,hj=>by omega
 |i+1,hi,j,hj=>by
  obtain⟨h1,h2,h3⟩:=h.ord xs.length (Nat.le_refl _);unfold Nf;rw[Jj]
  by_cases e:j=i
  ·subst e;rw[if_pos rfl]
  ·rw[if_neg fun k=>e ?_]
   ·exact h.N8 i (by omega) j (by omega)
   ·obtain⟨x,k1,k2,k3,_⟩:=h2 i (by omega);obtain⟨y,l1,l2,l3,_⟩:=h2 j (by omega);unfold elt at k;rw[qK,qK,qC,qC,k2,l2]at k;have k':((x:Nat):Int)=((y:Nat):Int):=k;have:x=y:=by omega
    rw[←k3,←l3,this]
theorem Twin.QM(h:Twin kv xs ys){x:Int}(h0:0≤x)(h1:x<(xs.length:Nat))(hd:¬Gone kv x):QM (jv kv xs.length) x=OV ys x:=by
 obtain⟨k1,k2,k3⟩:=h.ord xs.length (Nat.le_refl _)
 have hg:cK false kv ((x.toNat:Nat):Int)=false:=by
  rw[show((x.toNat:Nat):Int)=x by omega];cases hq:cK false kv x with
  |true=>exact absurd hq hd
  |false=>rfl
 have k4:=k3 x.toNat (by omega) hg;have k5:=(qE.1 k4).1;have k6:=h.N8 (jv kv xs.length).length (Nat.le_refl _) (y8 ys x.toNat) k5
 have e:elt 0 (jv kv xs.length) ((y8 ys x.toNat:Nat):Int)=x:=by
  unfold elt;rw[qK,qC,k4];show((x.toNat:Nat):Int)=x;omega
 rw[e]at k6;exact k6
theorem Twin.rQ(h:Twin kv xs ys):∀n:Nat,n≤xs.length→rQ ys n=(jv kv n).map fun k=>QD (OV ys) (au ys k)
 |0,_=>rfl
 |n+1,hn=>by
  unfold Tr.rQ jv;rw[h.xQ (k:=n) (by omega),h.rQ n (by omega)];cases cK false kv ((n:Nat):Int)
  ·simp
  ·simp
theorem Twin.pack(h:Twin kv xs ys):Ip xs (jv kv xs.length) (jv kv xs.length).length=NM ys:=by
 rw[ES _ _ _ (Nat.le_refl _),List.take_length];unfold NM;rw[←h.len,h.rQ _ (Nat.le_refl _)];refine List.map_congr_left fun k hk=> ?_
 obtain⟨j,hj,rfl⟩:=List.mem_iff_getElem.1 hk;obtain⟨x,k1,k2,k3,k4⟩:=(h.ord xs.length (Nat.le_refl _)).2.1 j hj;rw[qB hj]at k2;injection k2 with k2
 rw[k2]
 have hd:¬Gone kv ((x:Nat):Int):=fun e=>by
  have e':cK false kv ((x:Nat):Int)=true:=e;rw[k4]at e';cases e'
 rw[h.at_ (by omega) (by omega) hd];unfold QD
 congr 4
 refine List.map_congr_left fun p hp=> ?_
 obtain⟨i,hi,rfl⟩:=List.mem_iff_getElem.1 hp;have hw:=h.st.wi (((x:Nat):Int),((i:Nat):Int)) ⟨⟨by show(0:Int)≤(x:Nat);omega,by show((x:Nat):Int)<(xs.length:Nat);omega,by show(0:Int)≤(i:Nat);omega,by show((i:Nat):Int)<((au xs (x:Nat)).2.2.2.2.length:Nat);omega⟩,hd⟩
 have hpe:aJ xs (((x:Nat):Int),((i:Nat):Int))=(au xs (x:Nat)).2.2.2.2[i]:=by
  unfold aJ elt;rw[qK,qC,qB hi];rfl
 rw[hpe]at hw;obtain⟨_,⟨q1,q2⟩,_⟩:=hw;unfold RZ;rw[h.QM q1.1 q1.2.1 q2]
end
end Go.Tr
