
/- Nets as data: agents, ports, wires. No program in it. -/
import Derived.Test.YtnamelcmcikeoaaVV
import Derived.Test.YtnamelcmcikeoaaValid
set_option linter.unusedSimpArgs false
set_option linter.unusedVariables false
set_option linter.unusedSectionVars false
namespace Go.Tr
open Go Go.RowKit
abbrev aO:U:=.pair (.int .i64) (.int .i64)
abbrev aL:U:=.pair (.int .i64) (.pair (.int .i64) (.pair (.int .i64) (.pair (.sl (.int .i64)) (.sl aO))))
abbrev BD:U:=.sl aL
abbrev aC:=Int×Int
abbrev ah:=Int×Int×Int×List Int×List aC
def ak(xs:List ah)(i:Int):ah:=elt (dflt aL) xs i
abbrev ah.kind(a:ah):Int:=a.1
abbrev ah.level(a:ah):Int:=a.2.1
abbrev ah.value(a:ah):Int:=a.2.2.1
abbrev ah.data(a:ah):List Int:=a.2.2.2.1
abbrev ah.aQ(a:ah):List aC:=a.2.2.2.2
def aB(xs:List ah)(p:aC):aC:=elt (dflt aO) (ak xs p.1).aQ p.2
def aG(xs:List ah)(p q:aC):List ah:=xs.set p.1.toNat ((ak xs p.1).1,(ak xs p.1).2.1,(ak xs p.1).2.2.1,(ak xs p.1).2.2.2.1,(ak xs p.1).2.2.2.2.set p.2.toNat q)
def aT(xs:List ah)(p q:aC):List ah:=aG (aG xs p q) q p
def aj(xs:List ah)(p:aC):Prop:=0≤p.1∧p.1<(xs.length:Nat)∧0≤p.2∧p.2<((ak xs p.1).aQ.length:Nat)
abbrev vP(p:aC):SV:=.agg [.int .i64 p.1,.int .i64 p.2]
theorem dF(xs:List ah)(p q:aC):(aG xs p q).length=xs.length:=by unfold aG;simp
theorem rW{xs:List ah}{k:Nat}{y:ah}{i:Int}:ak (xs.set k y) i=if k=i.toNat∧k<xs.length then y else ak xs i:=by
 unfold ak elt;rw[List.getD_eq_getElem?_getD,List.getD_eq_getElem?_getD,List.getElem?_set]
 by_cases h:k=i.toNat
 ·subst h
  by_cases h2:i.toNat<xs.length
  ·simp[h2]
  ·simp[h2]
 ·simp[h]
theorem cK(xs:List ah)(p q:aC)(i:Int):ak (aG xs p q) i=if p.1.toNat=i.toNat∧p.1.toNat<xs.length then((ak xs p.1).1,(ak xs p.1).2.1,(ak xs p.1).2.2.1,(ak xs p.1).2.2.2.1,(ak xs p.1).2.2.2.2.set p.2.toNat q)else ak xs i:=rW
theorem rV{xs:List ah}{i j:Int}(h:i.toNat=j.toNat):ak xs i=ak xs j:=by unfold ak elt;rw[h]
theorem kF(xs:List ah)(p q:aC)(i:Int):(ak (aG xs p q) i).aQ.length=(ak xs i).aQ.length:=by
 rw[cK];split
 ·rename_i h;rw[rV h.1.symm];simp[ah.aQ]
 ·rfl
theorem aj.set{xs:List ah}{p q r:aC}(h:aj xs r):aj (aG xs p q) r:=by
 unfold aj at h ⊢;rw[dF,kF];exact h
theorem aj.link{xs:List ah}{p q r:aC}(h:aj xs r):aj (aT xs p q) r:=h.set.set
theorem bB(xs:List ah)(p q:aC):(aT xs p q).length=xs.length:=by unfold aT;rw[dF,dF]
theorem vM{us:List Value}{n:Nat}(hl:us.length=n*5){i:Int}(h0:0≤i)(h1:i<(n:Nat)):i.toNat*5+5≤us.length:=by omega
theorem BF{us:List Value}{n:Nat}(hl:us.length=n*5){i:Int}(h0:0≤i)(h1:i<(n:Nat)){o:Nat}(ho:o<5):us[i.toNat*5+o]? =some (us.getD (i.toNat*5+o) undef):=by
 rw[List.getD_eq_getElem?_getD,List.getElem?_eq_getElem (by omega)];rfl
def eD(xs:List ah)(old now:aC):List ah:=aT xs (aB xs old) now
def eU(xs:List ah)(x y:aC):List ah:=bif (aB xs x).1==y.1&&(aB xs x).2==y.2 then xs else aT xs (aB xs x) (aB xs y)
def bH(kind level value:Int)(data:List Int)(n:Nat):ah:=(kind,level,value,data,List.replicate n (0,0))
def Dp(kv:List (Int×Bool))(ks:List Int):List (Int×Bool):=ks.foldl (fun kv k=>fZ kv k true) kv
theorem eu{k:Nat}(h:k<1000000000):IntKind.i64.wrap ((k:Int)+1)=((k+1:Nat):Int):=Ja (by omega)
def oK(xs:List ah):Prop:=xs.length≤1048576∧∀i:Nat,(ak xs i).data.length≤1048576∧(ak xs i).aQ.length≤1048576
def pQ(by_:Int)(x:ah):ah:=bif bn x.kind then(x.1,x.2.1+by_,x.2.2)else x
def wK(by_:Int)(xs:List ah):Bool:=xs.all fun x=> !(bn x.kind)||decide (x.level+by_≤8)
def fQ(by_:Int)(xs:List ah):List ah:=xs.map (pQ by_)
def lF(x:Int):Int:=IntKind.i64.wrap (IntKind.i32.wrap x)
def Ob(o a b:Int):Int:=
 bif o==1 then lF (IntKind.i64.wrap (lF a+lF b))else bif o==2 then lF (IntKind.i64.wrap (lF a-lF b))else bif o==3 then lF (IntKind.i64.wrap (lF a*lF b))
 else bif o==4 then(bif lF b==0 then 0 else lF (IntKind.i64.wrap ((lF a).tdiv (lF b))))else bif o==5 then(bif decide (lF a<lF b)then 1 else 0)else bif o==6 then(bif lF a==lF b then 1 else 0)else 0
def dM(xs:List ah):Prop:=∀p,aj xs p→aj xs (aB xs p)
theorem Mj{α:Type}{d:α}{xs:List α}{k:Nat}{y:α}{i:Int}:elt d (xs.set k y) i=if k=i.toNat∧k<xs.length then y else elt d xs i:=by
 unfold elt;rw[List.getD_eq_getElem?_getD,List.getD_eq_getElem?_getD,List.getElem?_set]
 by_cases h:k=i.toNat
 ·subst h
  by_cases h2:i.toNat<xs.length<;>simp[h2]
 ·simp[h]
theorem Mi{α:Type}{d:α}{xs ys:List α}{i:Int}(h:i.toNat<xs.length):elt d (xs++ys) i=elt d xs i:=by
 unfold elt;rw[List.getD_eq_getElem?_getD,List.getD_eq_getElem?_getD,List.getElem?_append_left h]
theorem JE{α:Type}{d y:α}{xs:List α}{i:Int}(h:i.toNat=xs.length):elt d (xs++[y]) i=y:=by
 unfold elt;rw[h,List.getD_eq_getElem?_getD];simp
theorem dI{xs ys:List ah}{i:Int}(h:i.toNat<xs.length):ak (xs++ys) i=ak xs i:=Mi h
theorem qj{y:ah}{xs:List ah}{i:Int}(h:i.toNat=xs.length):ak (xs++[y]) i=y:=JE h
theorem aj.app{xs ys:List ah}{p:aC}(h:aj xs p):aj (xs++ys) p:=by
 obtain⟨h1,h2,h3,h4⟩:=h;refine⟨h1,by rw[List.length_append];omega,h3,?_⟩;rw[dI (by omega)];exact h4
theorem aj.new{k l v:Int}{d:List Int}{n:Nat}{xs:List ah}{s:Int}(h0:0≤s)(h1:s<(n:Nat)):aj (xs++[bH k l v d n]) ((xs.length:Nat),s):=by
 refine⟨by omega,by rw[List.length_append,List.length_singleton];show((xs.length:Nat):Int)<_;omega,h0,?_⟩;rw[qj (by simp)];simpa[bH,ah.aQ]using h1
theorem kg{xs ys:List ah}{p:aC}(h:p.1.toNat<xs.length):aB (xs++ys) p=aB xs p:=by unfold aB;rw[dI h]
theorem zL{xs:List ah}{p q r:aC}(hp:aj xs p)(hr:aj xs r):aB (aG xs p q) r=if p=r then q else aB xs r:=by
 obtain⟨p1,p2,p3,p4⟩:=hp;obtain⟨r1,r2,r3,r4⟩:=hr;unfold aB;rw[cK]
 by_cases h:p.1.toNat=r.1.toNat
 ·have e:p.1=r.1:=by omega
  rw[if_pos ⟨h,by omega⟩];show elt (dflt aO) ((ak xs p.1).2.2.2.2.set p.2.toNat q) r.2=_;rw[Mj]
  by_cases h2:p.2.toNat=r.2.toNat
  ·have e2:p.2=r.2:=by omega
   rw[if_pos ⟨h2,by simp only[ah.aQ]at p4;omega⟩,if_pos (Prod.ext e e2)]
  ·rw[if_neg (fun hh=>h2 hh.1),if_neg (fun hh=>h2 (by rw[hh])),e]
 ·rw[if_neg (fun hh=>h hh.1),if_neg (fun hh=>h (by rw[hh]))]
theorem gX{xs:List ah}{p q r:aC}(hp:aj xs p)(hq:aj xs q)(hr:aj xs r):aB (aT xs p q) r=if q=r then p else if p=r then q else aB xs r:=by
 unfold aT;rw[zL hq.set hr.set,zL hp hr]
theorem aj.unset{xs:List ah}{p q r:aC}(h:aj (aG xs p q) r):aj xs r:=by
 unfold aj at h ⊢
 rwa[dF,kF]at h
theorem aj.unlink{xs:List ah}{p q r:aC}(h:aj (aT xs p q) r):aj xs r:=h.unset.unset
theorem dM.link{xs:List ah}{p q:aC}(h:dM xs)(hp:aj xs p)(hq:aj xs q):dM (aT xs p q):=fun r hr=>by
 have hr':=hr.unlink;rw[gX hp hq hr'];split
 ·exact hp.link
 ·split
  ·exact hq.link
  ·exact(h r hr').link
theorem dM.move{xs:List ah}{p q:aC}(h:dM xs)(hp:aj xs p)(hq:aj xs q):dM (eD xs p q):=h.link (h p hp) hq
theorem aj.move{xs:List ah}{p q r:aC}(h:aj xs r):aj (eD xs p q) r:=h.link
theorem aj.join{xs:List ah}{p q r:aC}(h:aj xs r):aj (eU xs p q) r:=by
 unfold eU;cases ((aB xs p).1==q.1&&(aB xs p).2==q.2)with
 |true=>exact h
 |false=>exact h.link
theorem dM.join{xs:List ah}{p q:aC}(h:dM xs)(hp:aj xs p)(hq:aj xs q):dM (eU xs p q):=by
 unfold eU;cases ((aB xs p).1==q.1&&(aB xs p).2==q.2)with
 |true=>exact h
 |false=>exact h.link (h p hp) (h q hq)
theorem dM.add{xs:List ah}(h:dM xs)(h0:aj xs (0,0))(k l v:Int)(d:List Int)(n:Nat):dM (xs++[bH k l v d n]):=fun r hr=>by
 by_cases hlt:r.1.toNat<xs.length
 ·rw[kg hlt];obtain⟨r1,r2,r3,r4⟩:=hr;rw[dI hlt]at r4;exact(h r ⟨r1,by omega,r3,r4⟩).app
 ·obtain⟨r1,r2,r3,r4⟩:=hr;rw[List.length_append,List.length_singleton]at r2;have e:r.1.toNat=xs.length:=by omega
  have hp:aB (xs++[bH k l v d n]) r=(0,0):=by
   unfold aB;rw[qj e]at r4 ⊢;simp only[bH,ah.aQ,List.length_replicate]at r4;unfold elt;rw[List.getD_eq_getElem?_getD];simp only[bH,ah.aQ];rw[List.getElem?_replicate];split<;>rfl
  rw[hp];exact h0.app
theorem uM(xs:List ah)(p q:aC):(eD xs p q).length=xs.length:=bB _ _ _
theorem jl{xs:List ah}{p q a b:aC}(hp:aj xs p)(hq:aj xs q)(hn:p≠q):aG (aG xs p a) q b=aG (aG xs q b) p a:=by
 obtain⟨p1,p2,p3,p4⟩:=hp;obtain⟨q1,q2,q3,q4⟩:=hq
 by_cases h:p.1.toNat=q.1.toNat
 ·have e:p.1=q.1:=by omega
  have h2:p.2.toNat≠q.2.toNat:=fun h2=>hn (Prod.ext e (by omega))
  have k1:ak (aG xs p a) q.1=((ak xs p.1).1,(ak xs p.1).2.1,(ak xs p.1).2.2.1,(ak xs p.1).2.2.2.1,(ak xs p.1).2.2.2.2.set p.2.toNat a):=by
   rw[cK,if_pos ⟨h,by omega⟩]
  have k2:ak (aG xs q b) p.1=((ak xs q.1).1,(ak xs q.1).2.1,(ak xs q.1).2.2.1,(ak xs q.1).2.2.2.1,(ak xs q.1).2.2.2.2.set q.2.toNat b):=by
   rw[cK,if_pos ⟨h.symm,by omega⟩]
  rw[show aG (aG xs p a) q b=(aG xs p a).set q.1.toNat ((ak (aG xs p a) q.1).1,(ak (aG xs p a) q.1).2.1,(ak (aG xs p a) q.1).2.2.1,(ak (aG xs p a) q.1).2.2.2.1,(ak (aG xs p a) q.1).2.2.2.2.set q.2.toNat b) from rfl,show aG (aG xs q b) p a=(aG xs q b).set p.1.toNat ((ak (aG xs q b) p.1).1,(ak (aG xs q b) p.1).2.1,(ak (aG xs q b) p.1).2.2.1,(ak (aG xs q b) p.1).2.2.2.1,(ak (aG xs q b) p.1).2.2.2.2.set p.2.toNat a) from rfl,k1,k2];unfold aG;rw[h,List.set_set,List.set_set,e]
  simp only[];rw[List.set_comm _ _ h2]
 ·have k1:ak (aG xs p a) q.1=ak xs q.1:=by rw[cK,if_neg fun hh=>h hh.1]
  have k2:ak (aG xs q b) p.1=ak xs p.1:=by rw[cK,if_neg fun hh=>h hh.1.symm]
  rw[show aG (aG xs p a) q b=(aG xs p a).set q.1.toNat ((ak (aG xs p a) q.1).1,(ak (aG xs p a) q.1).2.1,(ak (aG xs p a) q.1).2.2.1,(ak (aG xs p a) q.1).2.2.2.1,(ak (aG xs p a) q.1).2.2.2.2.set q.2.toNat b) from rfl,show aG (aG xs q b) p a=(aG xs q b).set p.1.toNat ((ak (aG xs q b) p.1).1,(ak (aG xs q b) p.1).2.1,(ak (aG xs q b) p.1).2.2.1,(ak (aG xs q b) p.1).2.2.2.1,(ak (aG xs q b) p.1).2.2.2.2.set p.2.toNat a) from rfl,k1,k2];unfold aG;rw[List.set_comm _ _ h]
theorem xI{xs:List ah}{p q:aC}(hp:aj xs p)(hq:aj xs q):aT xs p q=aT xs q p:=by
 by_cases h:p=q
 ·rw[h]
 ·unfold aT;exact jl hp hq h
def qG(d:List Int)(i:Int):Int:=elt (dflt (.int .i64)) d i
def iP(xs:List ah)(x y:Int):List ah:=
 bif (ak xs y).1==7 then eD (eD (xs++[bH 8 (ak xs y).2.1 (ak xs y).2.2.1 [(ak xs x).2.2.1] 2]) (y,1) ((xs.length:Nat),0)) (y,2) ((xs.length:Nat),1)
 else eD (xs++[bH 6 0 (Ob (ak xs y).2.2.1 (qG (ak xs y).2.2.2.1 0) (ak xs x).2.2.1) [] 1]) (y,1) ((xs.length:Nat),0)
def NV:ah:=(0,0,0,[],[])
def dN(xs:List ah)(a:Int):List ah:=xs.set a.toNat NV
def oU(x c d:Int)(xs:List ah)(i:Nat):List ah:=aT (aT (xs++[bH 4 (ak xs x).2.1 0 [] 3]) ((xs.length:Nat),1) (c,(i:Nat))) ((xs.length:Nat),2) (d,(i:Nat))
def fV(x c d:Int)(xs:List ah):Nat→List ah
 |0=>xs
 |k+1=>oU x c d (fV x c d xs k) (k+1)
def je(y:Int)(b:Nat)(xs:List ah):Nat→List ah
 |0=>xs
 |k+1=>eD (je y b xs k) (y,((k:Nat):Int)+1) (((b+k:Nat):Int),0)
def oQ(xs:List ah)(y:Int):ah:=bH (ak xs y).1 (ak xs y).2.1 (ak xs y).2.2.1 (ak xs y).2.2.2.1 (ak xs y).2.2.2.2.length
def dup2(xs:List ah)(y:Int):List ah:=xs++[oQ xs y]++[oQ xs y]
def dup3(xs:List ah)(x y:Int):List ah:=fV x ((xs.length:Nat)) ((xs.length+1:Nat)) (dup2 xs y) ((ak xs y).2.2.2.2.length-1)
def Mg(xs:List ah)(x y:Int):List ah:=eD (eD (dup3 xs x y) (x,1) ((xs.length:Nat),0)) (x,2) ((xs.length+1:Nat),0)
def iO(xs:List ah)(x y:Int):List ah:=je y (xs.length+2) (Mg xs x y) ((ak xs y).2.2.2.2.length-1)
theorem Ef(x c d:Int)(xs:List ah)(i:Nat):(oU x c d xs i).length=xs.length+1:=by unfold oU;rw[bB,bB,List.length_append];rfl
theorem mE(x c d:Int)(xs:List ah):∀k,(fV x c d xs k).length=xs.length+k
 |0=>rfl
 |k+1=>by unfold fV;rw[Ef,mE x c d xs k];omega
theorem zn{x c d:Int}{xs:List ah}{i:Nat}{p:aC}(h:aj xs p):aj (oU x c d xs i) p:=h.app.link.link
theorem jq{x c d:Int}{xs:List ah}{p:aC}(h:aj xs p):∀k,aj (fV x c d xs k) p
 |0=>h
 |k+1=>zn (jq h k)
theorem Ee{x c d:Int}{xs:List ah}{i:Nat}(h:dM xs)(h0:aj xs (0,0))(hc:aj xs (c,(i:Nat)))(hd:aj xs (d,(i:Nat))):dM (oU x c d xs i):=
 ((h.add h0 4 (ak xs x).2.1 0 [] 3).link (aj.new (by decide) (by decide)) hc.app).link (aj.link (aj.new (by decide) (by decide))) hd.app.link
theorem vv{x c d:Int}{xs:List ah}(h:dM xs)(h0:aj xs (0,0)):∀k,(∀i:Nat,i≤k→aj xs (c,(i:Nat))∧aj xs (d,(i:Nat)))→dM (fV x c d xs k)
 |0,_=>h
 |k+1,hk=>Ee (vv h h0 k fun i hi=>hk i (by omega)) (jq h0 k) (jq (hk (k+1) (Nat.le_refl _)).1 k) (jq (hk (k+1) (Nat.le_refl _)).2 k)
theorem kJ{y:Int}{b:Nat}{xs:List ah}{p:aC}(h:aj xs p):∀k,aj (je y b xs k) p
 |0=>h
 |k+1=>(kJ h k).move
theorem sG{y:Int}{b:Nat}{xs:List ah}(h:dM xs):∀k,(∀i:Nat,i<k→aj xs (y,((i:Nat):Int)+1)∧aj xs (((b+i:Nat):Int),0))→dM (je y b xs k)
 |0,_=>h
 |k+1,hk=>(sG h k fun i hi=>hk i (by omega)).move (kJ (hk k (by omega)).1 k) (kJ (hk k (by omega)).2 k)
theorem ng(xs:List ah)(y:Int):(dup2 xs y).length=xs.length+2:=by unfold dup2;simp
theorem Ac{xs:List ah}{y:Int}{p:aC}(h:aj xs p):aj (dup2 xs y) p:=h.app.app
theorem Ec{xs:List ah}{y:Int}{i:Int}(h0:0≤i)(h1:i<((ak xs y).2.2.2.2.length:Nat)):aj (dup2 xs y) (((xs.length:Nat):Int),i):=(aj.new h0 h1).app
theorem Ed{xs:List ah}{y:Int}{i:Int}(h0:0≤i)(h1:i<((ak xs y).2.2.2.2.length:Nat)):aj (dup2 xs y) (((xs.length+1:Nat):Int),i):=by
 have:=aj.new (xs:=xs++[oQ xs y]) (k:=(ak xs y).1) (l:=(ak xs y).2.1) (v:=(ak xs y).2.2.1) (d:=(ak xs y).2.2.2.1) h0 h1;rw[List.length_append,List.length_singleton]at this;exact this
theorem JD{xs:List ah}{y:Int}(h:dM xs)(h0:aj xs (0,0)):dM (dup2 xs y):=(h.add h0 _ _ _ _ _).add h0.app _ _ _ _ _
theorem wY{x:Int}{c d:Int}{xs:List ah}:∀{k i:Nat},i<k→aj (fV x c d xs k) (((xs.length+i:Nat):Int),0)
 |0,i,h=>by omega
 |k+1,i,h=>by
  by_cases e:i=k
  ·subst e;have h2:=(aj.new (xs:=fV x c d xs i) (k:=4) (l:=(ak (fV x c d xs i) x).2.1) (v:=0) (d:=[]) (n:=3) (s:=0) (by decide) (by decide)).link (p:=(((fV x c d xs i).length:Nat),1)) (q:=(c,((i+1:Nat):Int)));have h3:=h2.link (p:=(((fV x c d xs i).length:Nat),2)) (q:=(d,((i+1:Nat):Int)));rw[mE]at h3;unfold fV oU;rw[mE];exact h3
  ·exact zn (wY (by omega))
def kW(b:Nat):Nat→aC
 |0=>(((b-1:Nat):Int),0)
 |k+1=>(((b+k:Nat):Int),2)
def qE(lv:Int)(b:Nat)(xs:List ah):Nat→List ah
 |0=>xs
 |k+1=>aT (qE lv b xs k++[bH 3 lv 0 [] 3]) (((b+k:Nat):Int),0) (kW b k)
def Ca(x:Int)(b:Nat)(xs:List ah):Nat→List ah
 |0=>xs
 |k+1=>eD (Ca x b xs k) (x,((k:Nat):Int)+1) (((b+k:Nat):Int),1)
def fM(xs:List ah)(y i:Int):List ah:=xs++[bH 12 (ak xs y).2.1 (qG (ak xs y).2.2.2.1 i) [] 1]
def nS(xs:List ah)(x y:Int):List ah:=
 bif (ak xs x).1==6 then eD (fM xs y (bif (ak xs x).2.2.1==0 then 1 else 0)) (y,1) ((xs.length:Nat),0)
 else eD (Ca x (xs.length+1) (qE (ak xs y).2.1 (xs.length+1) (fM xs y (ak xs x).2.2.1) ((ak xs x).2.2.2.2.length-1)) ((ak xs x).2.2.2.2.length-1)) (y,1) (kW (xs.length+1) ((ak xs x).2.2.2.2.length-1))
theorem su(lv:Int)(b:Nat)(xs:List ah):∀k,(qE lv b xs k).length=xs.length+k
 |0=>rfl
 |k+1=>by unfold qE;rw[bB,List.length_append,su lv b xs k];simp;omega
theorem zZ{lv:Int}{b:Nat}{xs:List ah}{p:aC}(h:aj xs p):∀k,aj (qE lv b xs k) p
 |0=>h
 |k+1=>(zZ h k).app.link
theorem wz{lv:Int}{xs:List ah}{s:Int}(h0:0≤s)(h1:s<3):∀{k i:Nat},i<k→aj (qE lv xs.length xs k) (((xs.length+i:Nat):Int),s)
 |0,i,h=>by omega
 |k+1,i,h=>by
  by_cases e:i=k
  ·subst e;have:=(aj.new (xs:=qE lv xs.length xs i) (k:=3) (l:=lv) (v:=0) (d:=[]) (n:=3) h0 (by omega)).link (p:=(((xs.length+i:Nat):Int),0)) (q:=kW xs.length i);rw[su]at this;exact this
  ·exact(wz h0 h1 (by omega:i<k)).app.link
theorem FH{lv:Int}{xs:List ah}(hr:aj xs (kW xs.length 0)):∀k,aj (qE lv xs.length xs k) (kW xs.length k)
 |0=>hr
 |k+1=>wz (by decide) (by decide) (Nat.lt_succ_self k)
theorem FI{lv:Int}{xs:List ah}(h:dM xs)(h0:aj xs (0,0))(hr:aj xs (kW xs.length 0)):∀k,dM (qE lv xs.length xs k)
 |0=>h
 |k+1=>by
  unfold qE;have:=aj.new (xs:=qE lv xs.length xs k) (k:=3) (l:=lv) (v:=0) (d:=[]) (n:=3) (s:=0) (by decide) (by decide);rw[su]at this;exact((FI h h0 hr k).add (zZ h0 k) _ _ _ _ _).link this (FH hr k).app
theorem FC(x:Int)(b:Nat)(xs:List ah):∀k,(Ca x b xs k).length=xs.length
 |0=>rfl
 |k+1=>by unfold Ca;rw[uM,FC x b xs k]
theorem mJ{x:Int}{b:Nat}{xs:List ah}{p:aC}(h:aj xs p):∀k,aj (Ca x b xs k) p
 |0=>h
 |k+1=>(mJ h k).move
theorem FB{x:Int}{b:Nat}{xs:List ah}(h:dM xs):∀k,(∀i:Nat,i<k→aj xs (x,((i:Nat):Int)+1)∧aj xs (((b+i:Nat):Int),1))→dM (Ca x b xs k)
 |0,_=>h
 |k+1,hk=>(FB h k fun i hi=>hk i (by omega)).move (mJ (hk k (by omega)).1 k) (mJ (hk k (by omega)).2 k)
theorem H6(xs:List ah)(y i:Int):(fM xs y i).length=xs.length+1:=by simp[fM]
def gZ(bk:List (List ah))(i:Int):List ah:=elt ([]:List ah) bk i
def vS(y:Int)(xs:List ah):Nat→List ah
 |0=>xs
 |k+1=>eD (vS y xs k++[bH 5 0 0 [] 1]) (y,((k+1:Nat):Int)) (((xs.length+k:Nat):Int),0)
def w9(xs:List ah)(y:Int):List ah:=vS y xs ((ak xs y).2.2.2.2.length-1)
theorem wD(y:Int)(xs:List ah):∀k,(vS y xs k).length=xs.length+k
 |0=>rfl
 |k+1=>by unfold vS;rw[uM,List.length_append,wD y xs k];simp;omega
theorem Ae{y:Int}{xs:List ah}{p:aC}(h:aj xs p):∀k,aj (vS y xs k) p
 |0=>h
 |k+1=>(Ae h k).app.move
theorem Mq{y:Int}{xs:List ah}(k:Nat):aj (vS y xs k++[bH 5 0 0 [] 1]) (((xs.length+k:Nat):Int),0):=by
 have:=aj.new (xs:=vS y xs k) (k:=5) (l:=0) (v:=0) (d:=[]) (n:=1) (s:=0) (by decide) (by decide)
 rwa[wD]at this
theorem FY{y:Int}{xs:List ah}(h:dM xs)(h0:aj xs (0,0)):∀k,(∀i:Nat,i<k→aj xs (y,((i+1:Nat):Int)))→dM (vS y xs k)
 |0,_=>h
 |k+1,hk=>((FY h h0 k fun i hi=>hk i (by omega)).add (Ae h0 k) _ _ _ _ _).move (Ae (hk k (by omega)) k).app (Mq k)
theorem EU(xs:List ah)(p q:aC)(i:Int):(ak (aT xs p q) i).2.2.2.2.length=(ak xs i).2.2.2.2.length:=by
 unfold aT;have h1:=kF (aG xs p q) q p i;have h2:=kF xs p q i;exact h1.trans h2
def Ox(bk:List (List ah)):Prop:=∀i:Nat,(∀j:Nat,0≤(ak (gZ bk i) j).2.1∧(ak (gZ bk i) j).2.1≤8)
def fO(b:Int)(a:ah):ah:=(a.1,a.2.1,a.2.2.1,a.2.2.2.1,a.2.2.2.2.map fun p=>(p.1+b,p.2))
def qO(bk:List (List ah))(xs:List ah)(x:Int):List ah:=fQ (ak xs x).2.1 (gZ bk (ak xs x).2.2.1)
def sJ(bk:List (List ah))(xs:List ah)(x y:Int):List ah:=
 aT (xs++((qO bk xs x).drop 1).map (fO ((xs.length:Nat)-1))) (y,0) ((aB (qO bk xs x) (0,0)).1+((xs.length:Nat)-1),(aB (qO bk xs x) (0,0)).2)
def mO(bk:List (List ah))(xs:List ah)(c x y:Int):List ah:=
 bif c==1 then eU (eU xs (x,1) (y,1)) (x,2) (y,2)else bif c==2 then eU (eU xs (x,1) (y,1)) (x,2) (y,2)
 else bif c==3 then iO xs x y else bif c==4 then w9 xs y else bif c==5 then iP xs x y else bif c==6 then nS xs x y else bif c==7 then sJ bk xs x y else xs
def kZ(c x y:Int):List Int:=bif c==7 then[x]else[x,y]
structure IntPre(xs:List ah)(c x y:Int):Prop where
 x0:0≤x∧x<(xs.length:Nat)
 y0:0≤y∧y<(xs.length:Nat)
 c12:c=1∨c=2→aj xs (x,1)∧aj xs (x,2)∧aj xs (y,1)∧aj xs (y,2)
 c3:c=3→aj xs (x,1)∧aj xs (x,2)
 px:0<(ak xs x).2.2.2.2.length∧(ak xs x).2.2.2.2.length≤1000
 py:0<(ak xs y).2.2.2.2.length∧(ak xs y).2.2.2.2.length≤1000
 dy:(ak xs y).2.2.2.1.length≤1000000
 c5:c=5→aj xs (y,1)∧((ak xs y).1=7→aj xs (y,2))∧((ak xs y).1≠7→0<(ak xs y).2.2.2.1.length)
 c6:c=6→aj xs (y,1)∧((ak xs x).1=6→(ak xs y).2.2.2.1.length=2)∧((ak xs x).1≠6→0≤(ak xs x).2.2.1∧(ak xs x).2.2.1<((ak xs y).2.2.2.1.length:Nat))
def vR(lv x:Int)(b:Nat)(xs:List ah):Nat→List ah
 |0=>xs
 |k+1=>eD (aT (vR lv x b xs k++[bH 3 lv 0 [] 3]) (kW b k) (((b+k:Nat):Int),0)) (x,((k+1:Nat):Int)) (((b+k:Nat):Int),1)
def sD(xs:List ah)(x y:Int):List ah:=
 bif (ak xs y).1==11 then eD (fM xs y (bif (ak xs x).2.2.1==0 then 1 else 0)) (y,1) ((xs.length:Nat),0)
 else eD (vR (ak xs y).2.1 x (xs.length+1) (fM xs y (ak xs x).2.2.1) ((ak xs x).2.2.2.2.length-1)) (y,1) (kW (xs.length+1) ((ak xs x).2.2.2.2.length-1))
theorem sw(lv x:Int)(b:Nat)(xs:List ah):∀k,(vR lv x b xs k).length=xs.length+k
 |0=>rfl
 |k+1=>by unfold vR;rw[uM,bB,List.length_append,sw lv x b xs k];simp;omega
theorem D7{lv x:Int}{b:Nat}{xs:List ah}{p:aC}(h:aj xs p):∀k,aj (vR lv x b xs k) p
 |0=>h
 |k+1=>(D7 h k).app.link.move
theorem FL{lv x:Int}{xs:List ah}{s:Int}(h0:0≤s)(h1:s<3):∀{k i:Nat},i<k→aj (vR lv x xs.length xs k) (((xs.length+i:Nat):Int),s)
 |0,i,h=>by omega
 |k+1,i,h=>by
  by_cases e:i=k
  ·subst e;have:=(aj.new (xs:=vR lv x xs.length xs i) (k:=3) (l:=lv) (v:=0) (d:=[]) (n:=3) h0 (by omega));rw[sw]at this;exact this.link.move
  ·exact(FL h0 h1 (by omega:i<k)).app.link.move
theorem Jt{lv x:Int}{xs:List ah}(hr:aj xs (kW xs.length 0)):∀k,aj (vR lv x xs.length xs k) (kW xs.length k)
 |0=>hr
 |k+1=>FL (by decide) (by decide) (Nat.lt_succ_self k)
def qo(lab c d:Int)(xs:List ah)(i:Nat):List ah:=aT (aT (xs++[bH 4 lab 0 [] 3]) ((xs.length:Nat),1) (c,(i:Nat))) ((xs.length:Nat),2) (d,(i:Nat))
def bM(lab c d:Int)(xs:List ah):Nat→List ah
 |0=>xs
 |k+1=>qo lab c d (bM lab c d xs k) (k+1)
theorem CQ(xs:List ah)(p q:aC)(i:Int):(ak (aT xs p q) i).2.1=(ak xs i).2.1:=by
 unfold aT
 have h:∀(xs:List ah) (p q:aC),(ak (aG xs p q) i).2.1=(ak xs i).2.1:=fun xs p q=>by
  rw[cK];split
  ·rename_i h;rw[rV h.1.symm]
  ·rfl
 rw[h,h]
theorem kI{x c d:Int}{xs:List ah}(hx:x.toNat<xs.length):∀k,bM (ak xs x).2.1 c d xs k=fV x c d xs k∧(ak (fV x c d xs k) x).2.1=(ak xs x).2.1
 |0=>⟨rfl,rfl⟩
 |k+1=>by
  obtain⟨h1,h2⟩:=kI hx k (c:=c) (d:=d);refine⟨?_,?_⟩
  ·unfold bM fV qo oU;rw[h1,h2]
  ·unfold fV oU;rw[CQ,CQ,dI (by rw[mE];omega),h2]
def OU(lv b:Int)(t:List ah)(k:Nat):List ah:=(((fQ lv t).drop 1).take k).map (fO b)
def Af(t:List ah)(lv:Int)(xs:List ah)(y:Int):List ah:=
 aT (xs++OU lv ((xs.length:Nat)-1) t (t.length-1)) (((xs.length:Nat)-1)+(aB t (0,0)).1,(aB t (0,0)).2) (y,0)
def D8(x y:ah):Bool:=bif (bif x.1==9 then y.1==10 else false)then decide ((y.2.2.2.1.length:Int)≤x.2.2.1)else false
def Ei(xs:List ah)(a b:Int):Int×Int:=bif zK (ak xs a).1 (ak xs a).2.1 (ak xs b).1 (ak xs b).2.1==2 then(b,a)else(a,b)
def o7(bk:List (List ah))(xs:List ah)(c x y:Int):List ah:=
 bif c==1 then eU (eU xs (x,1) (y,1)) (x,2) (y,2)else bif c==2 then eU (eU xs (x,1) (y,1)) (x,2) (y,2)
 else bif c==3 then iO xs x y else bif c==4 then w9 xs y else bif c==5 then iP xs x y else bif c==6 then sD xs x y else bif c==7 then Af (gZ bk (ak xs x).2.2.1) (ak xs x).2.1 xs y else xs
def JC(bk:List (List ah))(xs:List ah)(c x y:Int):List ah:=bif c==7 then dN (o7 bk xs c x y) x else dN (dN (o7 bk xs c x y) x) y
structure LU(xs:List ah)(c x y:Int):Prop extends IntPre xs c x y where
 k5:c=5→(ak xs y).1=7∨(ak xs y).1=8
 k6:c=6→((ak xs y).1=11→(ak xs y).2.2.2.1.length=2)∧((ak xs y).1≠11→0≤(ak xs x).2.2.1∧(ak xs x).2.2.1<((ak xs y).2.2.2.1.length:Nat)∧(ak xs x).1=9)
theorem qX(xs:List ah)(a:Int):(dN xs a).length=xs.length:=List.length_set
def dX(L:aC→Prop)(xs:List ah):Prop:=∀p,L p→aj xs p∧L (aB xs p)∧aB xs (aB xs p)=p∧aB xs p≠p
theorem dX.congr{L M:aC→Prop}{xs:List ah}(h:dX L xs)(e:∀p,M p↔L p):dX M xs:=fun p hp=>by
 obtain⟨h1,h2,h3⟩:=h p ((e p).1 hp);exact⟨h1,(e _).2 h2,h3⟩
theorem dX.cut{L:aC→Prop}{xs:List ah}(h:dX L xs){a:aC}(ha:L a):dX (fun p=>L p∧p≠a∧p≠aB xs a) xs:=fun p ⟨hp,h1,h2⟩=>by
 obtain⟨k1,k2,k3,k4⟩:=h p hp;refine⟨k1,⟨k2,fun e=>h2 (by rw[←e,k3]),fun e=>h1 ?_⟩,k3,k4⟩;have:=congrArg (aB xs) e;rw[k3,(h a ha).2.2.1]at this;exact this
theorem bQ{p q:aC}(h1:p.1=q.1)(h2:p.2=q.2):p=q:=by cases p;cases q;simp_all
theorem dX.link{L:aC→Prop}{xs:List ah}(h:dX L xs){p q:aC}(hp:aj xs p)(hq:aj xs q)(np:¬L p)(nq:¬L q)(hpq:p≠q):dX (fun r=>L r∨r=p∨r=q) (aT xs p q):=fun r hr=>by
 have key:∀s,L s→aj xs s∧s≠p∧s≠q:=fun s hs=>⟨(h s hs).1,fun e=>np (e▸hs),fun e=>nq (e▸hs)⟩
 rcases hr with hr|rfl|rfl
 ·obtain⟨h1,h2,h3,h5⟩:=h r hr;obtain⟨_,n1,n2⟩:=key r hr;obtain⟨h4,n3,n4⟩:=key _ h2;have e1:aB (aT xs p q) r=aB xs r:=by rw[gX hp hq h1,if_neg n2.symm,if_neg n1.symm]
  refine⟨h1.link,?_,?_,?_⟩
  ·rw[e1];exact .inl h2
  ·rw[e1,gX hp hq h4,if_neg n4.symm,if_neg n3.symm,h3]
  ·rw[e1];exact h5
 ·have e1:aB (aT xs r q) r=q:=by rw[gX hp hq hp,if_neg hpq.symm,if_pos rfl]
  have e2:aB (aT xs r q) q=r:=by rw[gX hp hq hq,if_pos rfl]
  exact⟨hp.link,by rw[e1];exact .inr (.inr rfl),by rw[e1,e2],by rw[e1];exact hpq.symm⟩
 ·have e1:aB (aT xs p r) r=p:=by rw[gX hp hq hq,if_pos rfl]
  have e2:aB (aT xs p r) p=r:=by rw[gX hp hq hp,if_neg hpq.symm,if_pos rfl]
  exact⟨hq.link,by rw[e1];exact .inr (.inl rfl),by rw[e1,e2],by rw[e1];exact hpq⟩
theorem dX.move{L:aC→Prop}{xs:List ah}(h:dX L xs){old now:aC}(ho:L old)(hn:aj xs now)(nn:¬L now):dX (fun r=>(L r∧r≠old)∨r=now) (eD xs old now):=by
 obtain⟨h1,h2,h3,h4⟩:=h old ho;have hne:aB xs old≠now:=fun e=>nn (e▸h2)
 have:=(h.cut ho).link (p:=aB xs old) (q:=now) (h _ h2).1 hn (fun e=>e.2.2 rfl) (fun e=>nn e.1) hne;refine this.congr fun r=> ?_
 constructor
 ·rintro(⟨k1,k2⟩|rfl)
  ·by_cases e:r=aB xs old
   ·exact .inr (.inl e)
   ·exact .inl ⟨k1,k2,e⟩
  ·exact .inr (.inr rfl)
 ·rintro(⟨k1,k2,k3⟩|rfl|rfl)
  ·exact .inl ⟨k1,k2⟩
  ·exact .inl ⟨h2,h4⟩
  ·exact .inr rfl
theorem dX.join{L:aC→Prop}{xs:List ah}(h:dX L xs){x y:aC}(hx:L x)(hy:L y)(hxy:x≠y):dX (fun r=>L r∧r≠x∧r≠y) (eU xs x y):=by
 obtain⟨h1,h2,h3,h4⟩:=h x hx;obtain⟨k1,k2,k3,k4⟩:=h y hy;unfold eU
 by_cases e:aB xs x=y
 ·rw[show((aB xs x).1==y.1&&(aB xs x).2==y.2)=true by rw[e];simp];refine(h.cut hx).congr fun r=> ?_
  rw[e]
 ·rw[show((aB xs x).1==y.1&&(aB xs x).2==y.2)=false by
   cases hb:((aB xs x).1==y.1&&(aB xs x).2==y.2)with
   |false=>rfl
   |true=>
    simp only[Bool.and_eq_true,beq_iff_eq]at hb;exact absurd (bQ hb.1 hb.2) e]
  rw[cond_false];have hyx:aB xs y≠x:=fun h=>e (by rw[←h,k3])
  have hpp:aB xs x≠aB xs y:=fun h=>hxy (by rw[←h3,h,k3])
  have c1:=h.cut hx;have hy':L y∧y≠x∧y≠aB xs x:=⟨hy,hxy.symm,fun h=>e h.symm⟩;have c2:=c1.cut (a:=y) hy';have:=c2.link (p:=aB xs x) (q:=aB xs y) (h _ h2).1 (h _ k2).1 (fun h=>h.1.2.2 rfl) (fun h=>h.2.2 rfl) hpp;refine this.congr fun r=> ?_
  constructor
  ·rintro⟨q1,q2,q3⟩
   by_cases e1:r=aB xs x
   ·exact .inr (.inl e1)
   by_cases e2:r=aB xs y
   ·exact .inr (.inr e2)
   ·exact .inl ⟨⟨q1,q2,e1⟩,q3,e2⟩
  ·rintro(⟨⟨q1,q2,q3⟩,q4,q5⟩|rfl|rfl)
   ·exact⟨q1,q2,q4⟩
   ·exact⟨h2,h4,e⟩
   ·exact⟨k2,hyx,k4⟩
theorem dX.app{L:aC→Prop}{xs:List ah}(h:dX L xs)(zs:List ah):dX L (xs++zs):=fun p hp=>by
 obtain⟨h1,h2,h3,h4⟩:=h p hp;have lt:∀{q:aC},aj xs q→q.1.toNat<xs.length:=fun {q} hq=>by have:=hq.1;have:=hq.2.1;omega
 have e1:=kg (ys:=zs) (lt h1);exact⟨h1.app,by rw[e1];exact h2,by rw[e1,kg (lt (h _ h2).1),h3],by rw[e1];exact h4⟩
def Agree(D:Int→Prop)(xs ys:List ah):Prop:=xs.length=ys.length∧∀i:Int,0≤i→i<(xs.length:Nat)→¬D i→ak xs i=ak ys i
theorem Agree.port{D:Int→Prop}{xs ys:List ah}(h:Agree D xs ys){p:aC}(hp:aj xs p)(hd:¬D p.1):aj ys p∧aB ys p=aB xs p:=by
 obtain⟨p1,p2,p3,p4⟩:=hp;have e:=h.2 p.1 p1 p2 hd;exact⟨⟨p1,by rw[←h.1];exact p2,p3,by rw[←e];exact p4⟩,by unfold aB;rw[e]⟩
theorem Agree.setPort{D:Int→Prop}{xs ys:List ah}(h:Agree D xs ys){p:aC}(q:aC)(hp:aj xs p)(hd:¬D p.1):Agree D (aG xs p q) (aG ys p q):=by
 refine⟨by rw[dF,dF];exact h.1,fun i h0 h1 hi=> ?_⟩;rw[dF]at h1;rw[cK,cK,h.2 p.1 hp.1 hp.2.1 hd,h.2 i h0 h1 hi,h.1]
theorem Agree.link{D:Int→Prop}{xs ys:List ah}(h:Agree D xs ys){p q:aC}(hp:aj xs p)(hq:aj xs q)(dp:¬D p.1)(dq:¬D q.1):Agree D (aT xs p q) (aT ys p q):=(h.setPort q hp dp).setPort p hq.set dq
theorem Agree.app{D:Int→Prop}{xs ys:List ah}(h:Agree D xs ys)(zs:List ah):Agree D (xs++zs) (ys++zs):=by
 refine⟨by rw[List.length_append,List.length_append,h.1],fun i h0 h1 hi=> ?_⟩;rw[List.length_append]at h1
 by_cases hl:i<(xs.length:Nat)
 ·rw[dI (by omega),dI (by rw[←h.1];omega)];exact h.2 i h0 hl hi
 ·have:∀ws:List ah,ws.length=xs.length→ak (ws++zs) i=zs.getD (i.toNat-xs.length) (dflt aL):=fun ws hw=>by
   unfold ak elt;rw[List.getD_eq_getElem?_getD,List.getElem?_append_right (by omega),hw,List.getD_eq_getElem?_getD]
  rw[this xs rfl,this ys h.1.symm]
theorem Agree.mono{D E:Int→Prop}{xs ys:List ah}(h:Agree D xs ys)(k:∀i,D i→E i):Agree E xs ys:=⟨h.1,fun i h0 h1 hi=>h.2 i h0 h1 fun hd=>hi (k i hd)⟩
theorem Agree.drop{D:Int→Prop}{xs ys:List ah}(h:Agree D xs ys){a:Int}(h0:0≤a)(hd:D a):Agree D xs (dN ys a):=by
 refine⟨by unfold dN;rw[List.length_set];exact h.1,fun i i0 i1 hi=> ?_⟩;unfold dN;rw[rW,if_neg (fun e=>hi (by(have:i=a:=by omega);rw[this];exact hd))];exact h.2 i i0 i1 hi
structure oC(D:Int→Prop)(L:aC→Prop)(xs ys:List ah):Prop where
 ag:Agree D xs ys
 wi:dX L xs
 al:∀p,L p→¬D p.1
section
variable {D:Int→Prop}{L:aC→Prop}{xs ys:List ah}
theorem oC.peer(h:oC D L xs ys){p:aC}(hp:L p):aB ys p=aB xs p:=(h.ag.port (h.wi p hp).1 (h.al p hp)).2
theorem oC.move(h:oC D L xs ys){old now:aC}(ho:L old)(hn:aj xs now)(nn:¬L now)(dn:¬D now.1):oC D (fun r=>(L r∧r≠old)∨r=now) (eD xs old now) (eD ys old now):=by
 refine⟨?_,h.wi.move ho hn nn,fun p hp=> ?_⟩
 ·unfold eD;rw[h.peer ho];exact h.ag.link (h.wi _ (h.wi _ ho).2.1).1 hn (h.al _ (h.wi _ ho).2.1) dn
 ·rcases hp with hp|rfl
  ·exact h.al p hp.1
  ·exact dn
theorem oC.join(h:oC D L xs ys){x y:aC}(hx:L x)(hy:L y)(hxy:x≠y):oC D (fun r=>L r∧r≠x∧r≠y) (eU xs x y) (eU ys x y):=by
 refine⟨?_,h.wi.join hx hy hxy,fun p hp=>h.al p hp.1⟩;unfold eU;rw[h.peer hx,h.peer hy];cases ((aB xs x).1==y.1&&(aB xs x).2==y.2)with
 |true=>exact h.ag
 |false=>exact h.ag.link (h.wi _ (h.wi _ hx).2.1).1 (h.wi _ (h.wi _ hy).2.1).1 (h.al _ (h.wi _ hx).2.1) (h.al _ (h.wi _ hy).2.1)
theorem oC.link(h:oC D L xs ys){p q:aC}(hp:aj xs p)(hq:aj xs q)(np:¬L p)(nq:¬L q)(hpq:p≠q)(dp:¬D p.1)(dq:¬D q.1):oC D (fun r=>L r∨r=p∨r=q) (aT xs p q) (aT ys p q):=by
 refine⟨h.ag.link hp hq dp dq,h.wi.link hp hq np nq hpq,fun r hr=> ?_⟩;rcases hr with hr|rfl|rfl
 ·exact h.al r hr
 ·exact dp
 ·exact dq
theorem oC.app(h:oC D L xs ys)(zs:List ah):oC D L (xs++zs) (ys++zs):=⟨h.ag.app zs,h.wi.app zs,h.al⟩
theorem oC.congr(h:oC D L xs ys){M:aC→Prop}(e:∀p,M p↔L p):oC D M xs ys:=⟨h.ag,h.wi.congr e,fun p hp=>h.al p ((e p).1 hp)⟩
theorem oC.cut(h:oC D L xs ys){a:aC}(ha:L a):oC D (fun p=>L p∧p≠a∧p≠aB xs a) xs ys:=⟨h.ag,h.wi.cut ha,fun p hp=>h.al p hp.1⟩
theorem oC.gone(h:oC D L xs ys)(a:Int)(h0:0≤a)(ha:∀p,L p→p.1≠a):oC (fun i=>D i∨i=a) L xs (dN ys a):=
 ⟨(h.ag.mono fun i hi=>.inl hi).drop h0 (.inr rfl),h.wi,fun p hp e=>e.elim (h.al p hp) (ha p hp)⟩
end
end Go.Tr
namespace Go.Tr
open Go Go.RowKit
def Live(D:Int→Prop)(xs:List ah):aC→Prop:=fun p=>aj xs p∧¬D p.1
def St(D:Int→Prop)(xs ys:List ah):Prop:=oC D (Live D xs) xs ys
theorem aj.gH{xs:List ah}{p q r:aC}:aj (aT xs p q) r↔aj xs r:=⟨aj.unlink,aj.link⟩
theorem aj.gJ{xs:List ah}{p q r:aC}:aj (eD xs p q) r↔aj xs r:=aj.gH
theorem aj.CJ{xs:List ah}{p q r:aC}:aj (eU xs p q) r↔aj xs r:=by
 unfold eU;cases ((aB xs p).1==q.1&&(aB xs p).2==q.2)with
 |true=>exact Iff.rfl
 |false=>exact aj.gH
theorem aj.bT{xs:List ah}{a:ah}{r:aC}:aj (xs++[a]) r↔aj xs r∨(r.1=(xs.length:Nat)∧0≤r.2∧r.2<(a.aQ.length:Nat)):=by
 constructor
 ·rintro⟨h1,h2,h3,h4⟩;rw[List.length_append,List.length_singleton]at h2
  by_cases hl:r.1.toNat<xs.length
  ·rw[dI hl]at h4;exact .inl ⟨h1,by omega,h3,h4⟩
  ·have e:r.1.toNat=xs.length:=by omega
   rw[qj e]at h4;exact .inr ⟨by omega,h3,h4⟩
 ·rintro(h|⟨h1,h2,h3⟩)
  ·exact h.app
  ·refine⟨by omega,by rw[List.length_append,List.length_singleton];omega,h2,?_⟩;rw[qj (by omega)];exact h3
structure kH(D:Int→Prop)(xs:List ah)(x y:Int):Prop where
 ne:x≠y
 lx:¬D x
 ly:¬D y
 px:aj xs (x,0)
 py:aj xs (y,0)
 w:aB xs (x,0)=(y,0)
section
variable {D:Int→Prop}{xs ys:List ah}{x y:Int}
theorem St.open_(h:St D xs ys)(k:kH D xs x y):oC D (fun p=>(aj xs p∧¬D p.1)∧p≠(x,0)∧p≠(y,0)) xs ys:=by
 have:=h.cut (a:=(x,0)) ⟨k.px,k.lx⟩;rw[k.w]at this;exact this
theorem bN{a b s t:Int}(h:a≠b∨s≠t):((a,s):aC)≠(b,t):=fun e=>by
 injection e with e1 e2
 rcases h with h|h
 ·exact h e1
 ·exact h e2
theorem St.joins(h:St D xs ys)(k:kH D xs x y)(hx:(ak xs x).2.2.2.2.length=3)(hy:(ak xs y).2.2.2.2.length=3):
  St (fun i=>D i∨i=x∨i=y) (eU (eU xs (x,1) (y,1)) (x,2) (y,2)) (dN (dN (eU (eU ys (x,1) (y,1)) (x,2) (y,2)) x) y):=by
 have inx:∀s:Int,0≤s→s<3→aj xs (x,s):=fun s h0 h1=>⟨k.px.1,k.px.2.1,h0,by show s<((ak xs x).2.2.2.2.length:Nat);omega⟩
 have iny:∀s:Int,0≤s→s<3→aj xs (y,s):=fun s h0 h1=>⟨k.py.1,k.py.2.1,h0,by show s<((ak xs y).2.2.2.2.length:Nat);omega⟩
 have s0:=h.open_ k;have s1:=s0.join (x:=(x,1)) (y:=(y,1)) ⟨⟨inx 1 (by decide) (by decide),k.lx⟩,bN (.inr (by decide)),bN (.inl k.ne)⟩ ⟨⟨iny 1 (by decide) (by decide),k.ly⟩,bN (.inl k.ne.symm),bN (.inr (by decide))⟩ (bN (.inl k.ne));have s2:=s1.join (x:=(x,2)) (y:=(y,2)) ⟨⟨⟨inx 2 (by decide) (by decide),k.lx⟩,bN (.inr (by decide)),bN (.inl k.ne)⟩,bN (.inr (by decide)),bN (.inl k.ne)⟩ ⟨⟨⟨iny 2 (by decide) (by decide),k.ly⟩,bN (.inl k.ne.symm),bN (.inr (by decide))⟩,bN (.inl k.ne.symm),bN (.inr (by decide))⟩ (bN (.inl k.ne))
 have key:∀p:aC,Live (fun i=>D i∨i=x∨i=y) (eU (eU xs (x,1) (y,1)) (x,2) (y,2)) p↔((((aj xs p∧¬D p.1)∧p≠(x,0)∧p≠(y,0))∧p≠(x,1)∧p≠(y,1))∧p≠(x,2)∧p≠(y,2)):=fun p=>by
  unfold Live;rw[aj.CJ,aj.CJ];constructor
  ·rintro⟨h1,h2⟩;have h3:p.1≠x:=fun e=>h2 (.inr (.inl e))
   have h4:p.1≠y:=fun e=>h2 (.inr (.inr e))
   have nx:∀s,p≠(x,s):=fun s e=>h3 (by rw[e])
   have ny:∀s,p≠(y,s):=fun s e=>h4 (by rw[e])
   exact⟨⟨⟨⟨h1,fun e=>h2 (.inl e)⟩,nx 0,ny 0⟩,nx 1,ny 1⟩,nx 2,ny 2⟩
  ·rintro⟨⟨⟨⟨h1,h2⟩,x0,y0⟩,x1,y1⟩,x2,y2⟩;refine⟨h1,fun e=> ?_⟩;obtain⟨q1,q2,q3,q4⟩:=h1;rcases e with e|e|e
   ·exact h2 e
   ·rw[e]at q4;have q5:p.2<3:=by(have:p.2<((ak xs x).2.2.2.2.length:Nat):=q4);omega
    have:p.2=0∨p.2=1∨p.2=2:=by omega
    rcases this with e2|e2|e2
    ·exact x0 (bQ e e2)
    ·exact x1 (bQ e e2)
    ·exact x2 (bQ e e2)
   ·rw[e]at q4;have q5:p.2<3:=by(have:p.2<((ak xs y).2.2.2.2.length:Nat):=q4);omega
    have:p.2=0∨p.2=1∨p.2=2:=by omega
    rcases this with e2|e2|e2
    ·exact y0 (bQ e e2)
    ·exact y1 (bQ e e2)
    ·exact y2 (bQ e e2)
 have s3:=s2.congr key;have s4:=(s3.gone x k.px.1 fun p hp e=>hp.2 (.inr (.inl e))).gone y k.py.1 fun p hp e=>hp.2 (.inr (.inr e))
 exact⟨s4.ag.mono fun i hi=>by rcases hi with(hi|hi)|hi<;>simp_all,s4.wi,fun p hp=>hp.2⟩
end
end Go.Tr
namespace Go.Tr
open Go Go.RowKit
def SX(D:Int→Prop)(X:aC→Prop)(xs ys:List ah):Prop:=oC D (fun p=>(aj xs p∧¬D p.1)∧¬X p) xs ys
section
variable {D:Int→Prop}{X Y:aC→Prop}{xs ys:List ah}
theorem SX.congr(h:SX D X xs ys)(e:∀p,aj xs p→¬D p.1→(Y p↔X p)):SX D Y xs ys:=oC.congr h fun p=>by
 constructor
 ·rintro⟨⟨h1,h2⟩,h3⟩;exact⟨⟨h1,h2⟩,fun h4=>h3 ((e p h1 h2).2 h4)⟩
 ·rintro⟨⟨h1,h2⟩,h3⟩;exact⟨⟨h1,h2⟩,fun h4=>h3 ((e p h1 h2).1 h4)⟩
theorem SX.add(h:SX D X xs ys)(a:ah):SX D (fun p=>X p∨p.1=(xs.length:Nat)) (xs++[a]) (ys++[a]):=oC.congr (oC.app h [a]) fun p=>by
 rw[aj.bT];constructor
 ·rintro⟨⟨h1,h2⟩,h3⟩;rcases h1 with h1|h1
  ·exact⟨⟨h1,h2⟩,fun h4=>h3 (.inl h4)⟩
  ·exact absurd (.inr h1.1) h3
 ·rintro⟨⟨h1,h2⟩,h3⟩;refine⟨⟨.inl h1,h2⟩,fun h4=> ?_⟩;rcases h4 with h4|h4
  ·exact h3 h4
  ·have:=h1.2.1;omega
theorem SX.move(h:SX D X xs ys){old now:aC}(ho:aj xs old)(od:¬D old.1)(ox:¬X old)(hn:aj xs now)(nd:¬D now.1)(nx:X now):SX D (fun p=>(X p∨p=old)∧p≠now) (eD xs old now) (eD ys old now):=by
 refine oC.congr (oC.move h (old:=old) (now:=now) ⟨⟨ho,od⟩,ox⟩ hn (fun k=>k.2 nx) nd) fun p=> ?_
 rw[aj.gJ];constructor
 ·rintro⟨⟨h1,h2⟩,h3⟩
  by_cases e:p=now
  ·exact .inr e
  ·exact .inl ⟨⟨⟨h1,h2⟩,fun k=>h3 ⟨.inl k,e⟩⟩,fun k=>h3 ⟨.inr k,e⟩⟩
 ·rintro(⟨⟨⟨h1,h2⟩,h3⟩,h4⟩|rfl)
  ·exact⟨⟨h1,h2⟩,fun k=>k.1.elim h3 h4⟩
  ·exact⟨⟨hn,nd⟩,fun k=>k.2 rfl⟩
theorem SX.link(h:SX D X xs ys){p q:aC}(hp:aj xs p)(pd:¬D p.1)(px:X p)(hq:aj xs q)(qd:¬D q.1)(qx:X q)(hpq:p≠q):SX D (fun r=>X r∧r≠p∧r≠q) (aT xs p q) (aT ys p q):=by
 refine oC.congr (oC.link h hp hq (fun k=>k.2 px) (fun k=>k.2 qx) hpq pd qd) fun r=> ?_
 rw[aj.gH];constructor
 ·rintro⟨⟨h1,h2⟩,h3⟩
  by_cases e1:r=p
  ·exact .inr (.inl e1)
  by_cases e2:r=q
  ·exact .inr (.inr e2)
  ·exact .inl ⟨⟨h1,h2⟩,fun k=>h3 ⟨k,e1,e2⟩⟩
 ·rintro(⟨⟨h1,h2⟩,h3⟩|rfl|rfl)
  ·exact⟨⟨h1,h2⟩,fun k=>h3 k.1⟩
  ·exact⟨⟨hp,pd⟩,fun k=>k.2.1 rfl⟩
  ·exact⟨⟨hq,qd⟩,fun k=>k.2.2 rfl⟩
theorem SX.start{x y:Int}(h:St D xs ys)(k:kH D xs x y):SX D (fun p=>p=(x,0)∨p=(y,0)) xs ys:=oC.congr (h.open_ k) fun p=>by
 constructor
 ·rintro⟨h1,h3⟩;exact⟨h1,fun e=>h3 (.inl e),fun e=>h3 (.inr e)⟩
 ·rintro⟨h1,h2,h3⟩;exact⟨h1,fun e=>e.elim h2 h3⟩
theorem SX.Ia{x y:Int}(h:SX D X xs ys)(x0:0≤x)(y0:0≤y)(e:∀p,aj xs p→¬D p.1→(X p↔p.1=x∨p.1=y)):St (fun i=>D i∨i=x∨i=y) xs (dN (dN ys x) y):=by
 have s3:oC D (Live (fun i=>D i∨i=x∨i=y) xs) xs ys:=oC.congr h fun p=>by
  unfold Live;constructor
  ·rintro⟨h1,h2⟩;have h3:¬D p.1:=fun k=>h2 (.inl k)
   exact⟨⟨h1,h3⟩,fun k=>h2 (.inr ((e p h1 h3).1 k))⟩
  ·rintro⟨⟨h1,h2⟩,h3⟩;exact⟨h1,fun k=>k.elim h2 fun k=>h3 ((e p h1 h2).2 k)⟩
 have s4:=(s3.gone x x0 fun p hp e=>hp.2 (.inr (.inl e))).gone y y0 fun p hp e=>hp.2 (.inr (.inr e))
 exact⟨s4.ag.mono fun i hi=>by rcases hi with(hi|hi)|hi<;>simp_all,s4.wi,fun p hp=>hp.2⟩
theorem SX.Sc{x:Int}(h:SX D X xs ys)(x0:0≤x)(e:∀p,aj xs p→¬D p.1→(X p↔p.1=x)):St (fun i=>D i∨i=x) xs (dN ys x):=by
 have s3:oC D (Live (fun i=>D i∨i=x) xs) xs ys:=oC.congr h fun p=>by
  unfold Live;constructor
  ·rintro⟨h1,h2⟩;have h3:¬D p.1:=fun k=>h2 (.inl k)
   exact⟨⟨h1,h3⟩,fun k=>h2 (.inr ((e p h1 h3).1 k))⟩
  ·rintro⟨⟨h1,h2⟩,h3⟩;exact⟨h1,fun k=>k.elim h2 fun k=>h3 ((e p h1 h2).2 k)⟩
 have s4:=s3.gone x x0 fun p hp e=>hp.2 (.inr e)
 exact⟨s4.ag,s4.wi,fun p hp=>hp.2⟩
theorem SX.len(h:SX D X xs ys):xs.length=ys.length:=h.ag.1
theorem SX.at_(h:SX D X xs ys){i:Int}(h0:0≤i)(h1:i<(xs.length:Nat))(hd:¬D i):ak ys i=ak xs i:=(h.ag.2 i h0 h1 hd).symm
theorem Cn{y:Int}{p:aC}(hlt:p.1.toNat<xs.length):∀{k:Nat},aj (vS y xs k) p→aj xs p
 |0,h=>h
 |k+1,h=>by
  unfold vS at h;rw[aj.gJ,aj.bT,wD]at h;rcases h with h|⟨h,_⟩
  ·exact Cn hlt h
  ·omega
theorem JL{x y:Int}(h:St D xs ys)(k:kH D xs x y)(hD:∀i,D i→i<(xs.length:Nat)):∀n:Nat,n≤(ak xs y).2.2.2.2.length-1→SX D (fun p=>p=(x,0)∨(p.1=y∧p.2≤(n:Nat))) (vS y xs n) (vS y ys n)
 |0,_=>(SX.start h k).congr fun p hp _=>by
  constructor
  ·rintro(e|⟨e1,e2⟩)
   ·exact .inl e
   ·exact .inr (bQ e1 (by have:=hp.2.2.1;show p.2=0;omega))
  ·rintro(e|e)
   ·exact .inl e
   ·exact .inr (by rw[e];exact⟨rfl,Int.le_refl _⟩)
 |n+1,hn=>by
  have ih:=JL h k hD n (by omega);have hl:(vS y xs n).length=xs.length+n:=wD y xs n;have hyl:=k.py.2.1;have hy0:=k.py.1;have hpy:aj xs (y,((n+1:Nat):Int)):=⟨hy0,hyl,by omega,by show((n+1:Nat):Int)<((ak xs y).2.2.2.2.length:Nat);omega⟩;have hin:=Ae (y:=y) hpy n;have s1:=ih.add (bH 5 0 0 [] 1);have hnew:aj (vS y xs n++[bH 5 0 0 [] 1]) (((xs.length+n:Nat):Int),0):=aj.bT.2 (.inr ⟨by rw[hl],Int.le_refl _,show(0:Int)<1 by decide⟩)
  have s2:=s1.move (old:=(y,((n+1:Nat):Int))) (now:=(((xs.length+n:Nat):Int),0)) hin.app k.ly (by
   rintro((e|⟨_,e⟩)|e)
   ·exact bN (.inl k.ne.symm) e
   ·have:((n+1:Nat):Int)≤(n:Nat):=e;omega
   ·have:y=((vS y xs n).length:Nat):=e;rw[hl]at this;omega) hnew (fun e=>by have:=hD _ e;show False;have h2:((xs.length+n:Nat):Int)<(xs.length:Nat):=this;omega) (.inr (by rw[hl]))
  have hyx:(vS y ys n++[bH 5 0 0 [] 1])=vS y ys n++[bH 5 0 0 [] 1]:=rfl
  have s3:SX D (fun p=>p=(x,0)∨(p.1=y∧p.2≤((n+1:Nat):Int))) (eD (vS y xs n++[bH 5 0 0 [] 1]) (y,((n+1:Nat):Int)) (((xs.length+n:Nat):Int),0)) (eD (vS y ys n++[bH 5 0 0 [] 1]) (y,((n+1:Nat):Int)) (((xs.length+n:Nat):Int),0)):=s2.congr fun p hp _=>by
   rw[aj.gJ,aj.bT,hl]at hp;rw[hl];constructor
   ·rintro(rfl|⟨e1,e2⟩)
    ·refine⟨.inl (.inl (.inl rfl)),bN (.inl ?_)⟩;have:=k.px.2.1;show x≠((xs.length+n:Nat):Int);have h2:x<(xs.length:Nat):=this;omega
    ·refine⟨?_,fun e=> ?_⟩
     ·by_cases e3:p.2=((n+1:Nat):Int)
      ·exact .inr (bQ e1 e3)
      ·exact .inl (.inl (.inr ⟨e1,by omega⟩))
     ·rw[e]at e1;have:((xs.length+n:Nat):Int)=y:=e1;have h2:y<(xs.length:Nat):=hyl;omega
   ·rintro⟨((e|⟨e1,e2⟩)|e)|e,e3⟩
    ·exact .inl e
    ·exact .inr ⟨e1,by omega⟩
    ·rcases hp with hp|⟨q1,q2,q3⟩
     ·have h2:=hp.2.1;rw[hl]at h2;have e':p.1=((xs.length+n:Nat):Int):=e;omega
     ·refine absurd (bQ (q:=(((xs.length+n:Nat):Int),0)) e ?_) e3;have:p.2<1:=q3;show p.2=0;omega
    ·exact .inr (by rw[e];exact⟨rfl,Int.le_refl _⟩)
  show SX D _ (vS y xs (n+1)) (vS y ys (n+1));unfold vS;rw[←h.ag.1];exact s3
theorem St.erase{x y:Int}(h:St D xs ys)(k:kH D xs x y)(hD:∀i,D i→i<(xs.length:Nat))(hx:(ak xs x).2.2.2.2.length=1):St (fun i=>D i∨i=x∨i=y) (w9 xs y) (dN (dN (w9 ys y) x) y):=by
 have e:ak ys y=ak xs y:=(h.ag.2 y k.py.1 k.py.2.1 k.ly).symm;unfold w9;rw[e];have s:=JL h k hD ((ak xs y).2.2.2.2.length-1) (Nat.le_refl _);refine s.Ia k.px.1 k.py.1 fun p hp _=> ?_
 have hport:p.1=x∨p.1=y→aj xs p:=fun hc=>by
  have hlt:p.1.toNat<xs.length:=by
   have h1:=k.px.2.1;have h2:=k.py.2.1;have h3:=k.px.1;have h4:=k.py.1
   have g1:x<(xs.length:Nat):=h1;have g2:y<(xs.length:Nat):=h2;have g3:0≤x:=h3;have g4:0≤y:=h4;rcases hc with hc|hc<;>omega
  exact Cn hlt hp
 constructor
 ·rintro(rfl|⟨e1,_⟩)
  ·exact .inl rfl
  ·exact .inr e1
 ·intro hc;obtain⟨q1,q2,q3,q4⟩:=hport hc;rcases hc with hc|hc
  ·rw[hc]at q4;have:p.2<((ak xs x).2.2.2.2.length:Nat):=q4;exact .inl (bQ hc (by show p.2=0;omega))
  ·rw[hc]at q4;have:p.2<((ak xs y).2.2.2.2.length:Nat):=q4;exact .inr ⟨hc,by omega⟩
theorem xJ{p:aC}(h:aj xs p):p.1.toNat<xs.length:=by have:=h.1;have:=h.2.1;omega
theorem St.operate{x y:Int}(h:St D xs ys)(k:kH D xs x y)(hD:∀i,D i→i<(xs.length:Nat))(hx:(ak xs x).2.2.2.2.length=1)(h7:(ak xs y).1=7→(ak xs y).2.2.2.2.length=3)(h8:(ak xs y).1≠7→(ak xs y).2.2.2.2.length=2):
  St (fun i=>D i∨i=x∨i=y) (iP xs x y) (dN (dN (iP ys x y) x) y):=by
 have ey:ak ys y=ak xs y:=(h.ag.2 y k.py.1 k.py.2.1 k.ly).symm;have ex:ak ys x=ak xs x:=(h.ag.2 x k.px.1 k.px.2.1 k.lx).symm;have hn:¬D (xs.length:Nat):=fun e=>by have:=hD _ e;omega
 have xl:x<(xs.length:Nat):=k.px.2.1;have yl:y<(xs.length:Nat):=k.py.2.1;have iny:∀s:Int,0≤s→s<((ak xs y).2.2.2.2.length:Nat)→aj xs (y,s):=fun s h0 h1=>⟨k.py.1,k.py.2.1,h0,h1⟩
 have fin:∀(X:aC→Prop) (a:ah) (zs:List ah),(∀p,aj zs p↔aj (xs++[a]) p)→(∀p,aj (xs++[a]) p→(X p↔(aj xs p∧(p.1=x∨p.1=y))))→∀p,aj zs p→¬D p.1→(X p↔p.1=x∨p.1=y):=fun X a zs hz hX p hp _=>by
  rw[hX p ((hz p).1 hp)];constructor
  ·exact fun e=>e.2
  ·intro e;refine⟨?_,e⟩;rcases aj.bT.1 ((hz p).1 hp)with q|⟨q,_⟩
   ·exact q
   ·rcases e with e|e<;>omega
 unfold iP;rw[ex,ey,←h.ag.1];cases hk:(ak xs y).1==7 with
 |true=>
  have h3:=h7 (by simpa using hk);simp only[cond_true];have i1:=iny 1 (by decide) (by omega);have i2:=iny 2 (by decide) (by omega);have s1:=(SX.start h k).add (bH 8 (ak xs y).2.1 (ak xs y).2.2.1 [(ak xs x).2.2.1] 2);have n0:aj (xs++[bH 8 (ak xs y).2.1 (ak xs y).2.2.1 [(ak xs x).2.2.1] 2]) ((xs.length:Nat),0):=aj.bT.2 (.inr ⟨rfl,Int.le_refl _,show(0:Int)<2 by decide⟩);have n1:aj (xs++[bH 8 (ak xs y).2.1 (ak xs y).2.2.1 [(ak xs x).2.2.1] 2]) ((xs.length:Nat),1):=aj.bT.2 (.inr ⟨rfl,show(0:Int)≤1 by decide,show(1:Int)<2 by decide⟩)
  have s2:=s1.move (old:=(y,1)) (now:=((xs.length:Nat),0)) i1.app k.ly (by
   rintro((e|e)|e)
   ·exact bN (.inl k.ne.symm) e
   ·exact bN (.inr (by decide)) e
   ·have:y=(xs.length:Nat):=e;omega) n0 hn (.inr rfl)
  have s3:=s2.move (old:=(y,2)) (now:=((xs.length:Nat),1)) i2.app.move k.ly (by
   rintro⟨((e|e)|e)|e,_⟩
   ·exact bN (.inl k.ne.symm) e
   ·exact bN (.inr (by decide)) e
   ·have:y=(xs.length:Nat):=e;omega
   ·exact bN (.inr (by decide)) e) n1.move hn ⟨.inl (.inr rfl),bN (.inr (by decide))⟩
  refine s3.Ia k.px.1 k.py.1 (fin _ _ _ (fun p=>by rw[aj.gJ,aj.gJ]) fun p hp=> ?_)
  have hA:p.1=(xs.length:Nat)→p=(((xs.length:Nat):Int),0)∨p=(((xs.length:Nat):Int),1):=fun e=>by
   rcases aj.bT.1 hp with q|⟨_,q2,q3⟩
   ·have:=q.2.1;omega
   ·have:p.2<2:=q3;have:p.2=0∨p.2=1:=by omega
    rcases this with e2|e2
    ·exact .inl (bQ e e2)
    ·exact .inr (bQ e e2)
  constructor
  ·rintro⟨(⟨((e|e)|e)|e,e2⟩|e),e3⟩
   ·rw[e];exact⟨k.px,.inl rfl⟩
   ·rw[e];exact⟨k.py,.inr rfl⟩
   ·rcases hA e with e4|e4
    ·exact absurd e4 e2
    ·exact absurd e4 e3
   ·rw[e];exact⟨i1,.inr rfl⟩
   ·rw[e];exact⟨i2,.inr rfl⟩
  ·rintro⟨q,e⟩;have ne:∀s,p≠(((xs.length:Nat):Int),s):=fun s e2=>by have:=q.2.1;rw[e2]at this;have h3:((xs.length:Nat):Int)<(xs.length:Nat):=this;omega
   refine⟨?_,ne 1⟩;obtain⟨q1,q2,q3,q4⟩:=q;rcases e with e|e
   ·rw[e]at q4;have:p.2<((ak xs x).2.2.2.2.length:Nat):=q4;exact .inl ⟨.inl (.inl (.inl (bQ e (by show p.2=0;omega)))),ne 0⟩
   ·rw[e]at q4;have:p.2<((ak xs y).2.2.2.2.length:Nat):=q4;have:p.2=0∨p.2=1∨p.2=2:=by omega
    rcases this with e2|e2|e2
    ·exact .inl ⟨.inl (.inl (.inr (bQ e e2))),ne 0⟩
    ·exact .inl ⟨.inr (bQ e e2),ne 0⟩
    ·exact .inr (bQ e e2)
 |false=>
  have h3:=h8 (by simpa using hk);simp only[cond_false];have i1:=iny 1 (by decide) (by omega);generalize hv:Ob (ak xs y).2.2.1 (qG (ak xs y).2.2.2.1 0) (ak xs x).2.2.1=v;have s1:=(SX.start h k).add (bH 6 0 v [] 1);have n0:aj (xs++[bH 6 0 v [] 1]) ((xs.length:Nat),0):=aj.bT.2 (.inr ⟨rfl,Int.le_refl _,show(0:Int)<1 by decide⟩)
  have s2:=s1.move (old:=(y,1)) (now:=((xs.length:Nat),0)) i1.app k.ly (by
   rintro((e|e)|e)
   ·exact bN (.inl k.ne.symm) e
   ·exact bN (.inr (by decide)) e
   ·have:y=(xs.length:Nat):=e;omega) n0 hn (.inr rfl)
  refine s2.Ia k.px.1 k.py.1 (fin _ _ _ (fun p=>by rw[aj.gJ]) fun p hp=> ?_)
  have hA:p.1=(xs.length:Nat)→p=(((xs.length:Nat):Int),0):=fun e=>by
   rcases aj.bT.1 hp with q|⟨_,q2,q3⟩
   ·have:=q.2.1;omega
   ·have:p.2<1:=q3;exact bQ e (by show p.2=0;omega)
  constructor
  ·rintro⟨((e|e)|e)|e,e2⟩
   ·rw[e];exact⟨k.px,.inl rfl⟩
   ·rw[e];exact⟨k.py,.inr rfl⟩
   ·exact absurd (hA e) e2
   ·rw[e];exact⟨i1,.inr rfl⟩
  ·rintro⟨q,e⟩;have ne:∀s,p≠(((xs.length:Nat):Int),s):=fun s e2=>by have:=q.2.1;rw[e2]at this;have h3:((xs.length:Nat):Int)<(xs.length:Nat):=this;omega
   refine⟨?_,ne 0⟩;obtain⟨q1,q2,q3,q4⟩:=q;rcases e with e|e
   ·rw[e]at q4;have:p.2<((ak xs x).2.2.2.2.length:Nat):=q4;exact .inl (.inl (.inl (bQ e (by show p.2=0;omega))))
   ·rw[e]at q4;have:p.2<((ak xs y).2.2.2.2.length:Nat):=q4;have:p.2=0∨p.2=1:=by omega
    rcases this with e2|e2
    ·exact .inl (.inl (.inr (bQ e e2)))
    ·exact .inr (bQ e e2)
end
end Go.Tr
namespace Go.Tr
open Go Go.RowKit
section
variable {D:Int→Prop}{xs ys:List ah}{x y:Int}
theorem lq(lab c d:Int)(xs:List ah):∀k,(bM lab c d xs k).length=xs.length+k
 |0=>rfl
 |k+1=>by unfold bM qo;rw[bB,bB,List.length_append,lq lab c d xs k];rfl
theorem jA{lab c d:Int}{xs:List ah}{p:aC}(h:aj xs p):∀k,aj (bM lab c d xs k) p
 |0=>h
 |k+1=>(jA h k).app.link.link
theorem Cq{P Q:List ah}{lab:Int}{n m:Nat}(hn:P.length=n+2)(hx:x<(n:Nat))(hy:y<(n:Nat))(hD:∀i,D i→i<(n:Nat))(hm:∀s:Int,0≤s→s<(m:Nat)→aj P ((n:Nat),s)∧aj P ((n+1:Nat),s))
  (h:SX D (fun p=>p=(x,0)∨p=(y,0)∨p.1=(n:Nat)∨p.1=((n+1:Nat):Int)) P Q):∀k:Nat,k+1≤m→
  SX D (fun p=>p=(x,0)∨p=(y,0)∨((p.1=(n:Nat)∨p.1=((n+1:Nat):Int))∧(p.2=0∨(k:Int)<p.2))∨(((n+2:Nat):Int)≤p.1∧p.2=0)) (bM lab ((n:Nat):Int) ((n+1:Nat):Int) P k) (bM lab ((n:Nat):Int) ((n+1:Nat):Int) Q k)
 |0,_=>h.congr fun p hp _=>by
  obtain⟨q1,q2,q3,_⟩:=hp;obtain⟨a,s⟩:=p;rw[hn]at q2;simp only[Prod.mk.injEq]at*;omega
 |k+1,hk=>by
  have ih:=Cq (lab:=lab) hn hx hy hD hm h k (by omega);have hl:(bM lab ((n:Nat):Int) ((n+1:Nat):Int) P k).length=n+2+k:=by rw[lq,hn]
  have hlq:(bM lab ((n:Nat):Int) ((n+1:Nat):Int) Q k).length=n+2+k:=by rw[←ih.len,hl]
  have nd:∀i:Nat,n≤i→¬D (i:Nat):=fun i hi e=>by have:=hD _ e;omega
  obtain⟨hc,hd⟩:=hm ((k+1:Nat):Int) (by omega) (by omega);have hc1:=jA (lab:=lab) (c:=((n:Nat):Int)) (d:=((n+1:Nat):Int)) hc k;have hd1:=jA (lab:=lab) (c:=((n:Nat):Int)) (d:=((n+1:Nat):Int)) hd k;generalize hA:bM lab ((n:Nat):Int) ((n+1:Nat):Int) P k=A at*;generalize hB:bM lab ((n:Nat):Int) ((n+1:Nat):Int) Q k=B at*;have s1:=ih.add (bH 4 lab 0 [] 3);have f1:aj (A++[bH 4 lab 0 [] 3]) ((A.length:Nat),1):=aj.bT.2 (.inr ⟨rfl,show(0:Int)≤1 by decide,show(1:Int)<3 by decide⟩)
  have f2:aj (A++[bH 4 lab 0 [] 3]) ((A.length:Nat),2):=aj.bT.2 (.inr ⟨rfl,show(0:Int)≤2 by decide,show(2:Int)<3 by decide⟩);rw[hl]at f1 f2 s1;have s2:=s1.link (p:=((n+2+k:Nat),1)) (q:=((n:Nat),((k+1:Nat):Int))) f1 (nd _ (by omega)) (.inr rfl) hc1.app (nd _ (Nat.le_refl _)) (.inl (.inr (.inr (.inl ⟨.inl rfl,.inr (show(k:Int)<((k+1:Nat):Int) by omega)⟩)))) (bN (.inl (by omega)))
  have s3:=s2.link (p:=((n+2+k:Nat),2)) (q:=((n+1:Nat),((k+1:Nat):Int))) f2.link (nd _ (by omega)) ⟨.inr rfl,bN (.inr (by decide)),bN (.inl (by omega))⟩ hd1.app.link (nd _ (by omega))
   ⟨.inl (.inr (.inr (.inl ⟨.inr rfl,.inr (show(k:Int)<((k+1:Nat):Int) by omega)⟩))),bN (.inl (by omega)),bN (.inl (by omega))⟩ (bN (.inl (by omega)))
  have e1:bM lab ((n:Nat):Int) ((n+1:Nat):Int) P (k+1)=aT (aT (A++[bH 4 lab 0 [] 3]) ((n+2+k:Nat),1) ((n:Nat),((k+1:Nat):Int))) ((n+2+k:Nat),2) ((n+1:Nat),((k+1:Nat):Int)):=by
   rw[←hl,←hA];rfl
  have e2:bM lab ((n:Nat):Int) ((n+1:Nat):Int) Q (k+1)=aT (aT (B++[bH 4 lab 0 [] 3]) ((n+2+k:Nat),1) ((n:Nat),((k+1:Nat):Int))) ((n+2+k:Nat),2) ((n+1:Nat),((k+1:Nat):Int)):=by
   rw[←hlq,←hB];rfl
  rw[e1,e2];refine s3.congr fun p hp _=> ?_
  rw[aj.gH,aj.gH,aj.bT,hl]at hp
  have hp':p.1<((n+2+k:Nat):Int)∨(p.1=((n+2+k:Nat):Int)∧0≤p.2∧p.2<3):=by
   rcases hp with hp|hp
   ·have:=hp.2.1;rw[hl]at this;exact .inl this
   ·exact .inr hp
  have h0:0≤p.2:=by
   rcases hp with hp|hp
   ·exact hp.2.2.1
   ·exact hp.2.1
  obtain⟨a,s⟩:=p;simp only[Prod.mk.injEq,ne_eq]at*;omega
theorem zI{P Q:List ah}{b m:Nat}{X:aC→Prop}(hX:∀k:Nat,k<m→¬X (y,((k:Nat):Int)+1)∧X (((b+k:Nat):Int),0))(hy:aj P (y,0)∧∀k:Nat,k<m→aj P (y,((k:Nat):Int)+1)∧aj P (((b+k:Nat):Int),0))(yd:¬D y)(bd:∀k:Nat,¬D ((b+k:Nat):Int))(yb:y<(b:Nat))(h:SX D X P Q):
  ∀k:Nat,k≤m→SX D (fun p=>(X p∨(p.1=y∧1≤p.2∧p.2≤(k:Nat)))∧¬((b:Int)≤p.1∧p.1<((b+k:Nat):Int)∧p.2=0)) (je y b P k) (je y b Q k)
 |0,_=>h.congr fun p hp _=>by
  constructor
  ·rintro⟨e|e,_⟩
   ·exact e
   ·omega
  ·intro e;exact⟨.inl e,fun k=>by omega⟩
 |k+1,hk=>by
  have ih:=zI hX hy yd bd yb h k (by omega);obtain⟨x1,x2⟩:=hX k (by omega);obtain⟨y1,y2⟩:=hy.2 k (by omega)
  have s1:=ih.move (old:=(y,((k:Nat):Int)+1)) (now:=(((b+k:Nat):Int),0)) (kJ y1 k) yd (by
   rintro⟨e|⟨_,_,e⟩,_⟩
   ·exact x1 e
   ·have:((k:Nat):Int)+1≤(k:Nat):=e;omega) (kJ y2 k) (bd k) ⟨.inl x2,fun e=>by have:((b+k:Nat):Int)<((b+k:Nat):Int):=e.2.1;omega⟩
  refine s1.congr fun p hp _=> ?_
  have q:(((X p∨(p.1=y∧1≤p.2∧p.2≤((k+1:Nat):Int)))∧¬((b:Int)≤p.1∧p.1<((b+(k+1):Nat):Int)∧p.2=0))↔((((X p∨(p.1=y∧1≤p.2∧p.2≤(k:Nat)))∧¬((b:Int)≤p.1∧p.1<((b+k:Nat):Int)∧p.2=0))∨p=(y,((k:Nat):Int)+1))∧p≠(((b+k:Nat):Int),0))):=by
   obtain⟨a,s⟩:=p;simp only[Prod.mk.injEq,ne_eq]
   by_cases hXp:X (a,s)
   ·simp only[hXp,true_or,true_and];omega
   ·simp only[hXp,false_or];omega
  exact q
theorem qL{lab c d:Int}{xs:List ah}{p:aC}(hlt:p.1.toNat<xs.length):∀{k:Nat},aj (bM lab c d xs k) p→aj xs p
 |0,h=>h
 |k+1,h=>by
  unfold bM qo at h;rw[aj.gH,aj.gH,aj.bT,lq]at h;rcases h with h|⟨h,_⟩
  ·exact qL hlt h
  ·omega
theorem sH{y:Int}{b:Nat}{xs:List ah}{p:aC}:∀k:Nat,aj (je y b xs k) p↔aj xs p
 |0=>Iff.rfl
 |k+1=>by unfold je;rw[aj.gJ,sH k]
theorem H7{xs:List ah}{y:Int}{p:aC}(hlt:p.1.toNat<xs.length)(h:aj (dup2 xs y) p):aj xs p:=by
 unfold dup2 at h;rw[aj.bT,aj.bT,List.length_append]at h;rcases h with(h|⟨h,_⟩)|⟨h,_⟩
 ·exact h
 ·omega
 ·simp only[List.length_singleton]at h;omega
theorem zo{xs:List ah}{y:Int}{lab:Int}{p:aC}:∀k:Nat,aj (bM lab ((xs.length:Nat):Int) ((xs.length+1:Nat):Int) (dup2 xs y) k) p→0≤p.1∧p.1<((xs.length+2+k:Nat):Int)∧0≤p.2∧(p.1=(xs.length:Nat)∨p.1=((xs.length+1:Nat):Int)→p.2<((ak xs y).2.2.2.2.length:Nat))
 |0,h=>by
  have h5:aj (dup2 xs y) p:=h;obtain⟨h1,h2,h3,_⟩:=h;refine⟨h1,by(have:(bM lab ((xs.length:Nat):Int) ((xs.length+1:Nat):Int) (dup2 xs y) 0).length=xs.length+2:=ng xs y);omega,h3,fun e=> ?_⟩;unfold dup2 at h5;have hd:(oQ xs y).aQ.length=(ak xs y).2.2.2.2.length:=by show(List.replicate _ _).length=_;rw[List.length_replicate]
  rw[aj.bT,aj.bT,List.length_append,List.length_singleton]at h5;rcases h5 with(h5|⟨_,_,h5⟩)|⟨_,_,h5⟩
  ·have:=h5.2.1;omega
  ·omega
  ·omega
 |k+1,h=>by
  unfold bM qo at h;rw[aj.gH,aj.gH,aj.bT,lq,ng]at h;rcases h with h|⟨h1,h2,h3⟩
  ·obtain⟨q1,q2,q3,q4⟩:=zo k h;exact⟨q1,by omega,q3,q4⟩
  ·exact⟨by omega,by omega,h2,fun e=>by omega⟩
theorem St.duplicate(h:St D xs ys)(k:kH D xs x y)(hD:∀i,D i→i<(xs.length:Nat))(hx:(ak xs x).2.2.2.2.length=3)(hy:1≤(ak xs y).2.2.2.2.length):
  St (fun i=>D i∨i=x∨i=y) (iO xs x y) (dN (dN (iO ys x y) x) y):=by
 have ey:ak ys y=ak xs y:=(h.ag.2 y k.py.1 k.py.2.1 k.ly).symm;have ex:ak ys x=ak xs x:=(h.ag.2 x k.px.1 k.px.2.1 k.lx).symm;have hl:xs.length=ys.length:=h.ag.1;have xl:x<(xs.length:Nat):=k.px.2.1;have yl:y<(xs.length:Nat):=k.py.2.1;have x0:0≤x:=k.px.1;have y0:0≤y:=k.py.1;have hne:=k.ne;generalize hm:(ak xs y).2.2.2.2.length=m at*;generalize hn:xs.length=n at*;have nd:∀i:Nat,n≤i→¬D (i:Nat):=fun i hi e=>by have:=hD _ e;omega
 have s0:=SX.start h k
 have s2:SX D (fun p=>p=(x,0)∨p=(y,0)∨p.1=(n:Nat)∨p.1=((n+1:Nat):Int)) (dup2 xs y) (dup2 ys y):=by
  have e:oQ ys y=oQ xs y:=by unfold oQ;rw[ey]
  unfold dup2;rw[e];refine((s0.add (oQ xs y)).add (oQ xs y)).congr fun p _ _=> ?_
  rw[List.length_append,hn];simp only[List.length_singleton];constructor
  ·rintro(e|e|e|e)
   ·exact .inl (.inl (.inl e))
   ·exact .inl (.inl (.inr e))
   ·exact .inl (.inr e)
   ·exact .inr e
  ·rintro(((e|e)|e)|e)
   ·exact .inl e
   ·exact .inr (.inl e)
   ·exact .inr (.inr (.inl e))
   ·exact .inr (.inr (.inr e))
 have hP:(dup2 xs y).length=n+2:=by rw[ng,hn]
 have hc:∀s:Int,0≤s→s<(m:Nat)→aj (dup2 xs y) ((n:Nat),s)∧aj (dup2 xs y) ((n+1:Nat),s):=fun s h0 h1=>by
  have q1:=Ec (xs:=xs) (y:=y) h0 (by rw[hm];exact h1);have q2:=Ed (xs:=xs) (y:=y) h0 (by rw[hm];exact h1);rw[hn]at q1 q2;exact⟨q1,q2⟩
 have s3:=Cq (lab:=(ak xs x).2.1) hP xl yl hD hc s2 (m-1) (by omega)
 have fx:(ak (dup2 xs y) x).2.1=(ak xs x).2.1:=by
  unfold dup2;rw[dI (by rw[List.length_append,hn];omega),dI (by omega)]
 have fy:(ak (dup2 ys y) x).2.1=(ak xs x).2.1:=by
  unfold dup2;rw[dI (by rw[List.length_append];omega),dI (by omega),ex]
 have d3x:dup3 xs x y=bM (ak xs x).2.1 ((n:Nat):Int) ((n+1:Nat):Int) (dup2 xs y) (m-1):=by
  unfold dup3;rw[←(kI (x:=x) (by rw[hP];omega) _).1,fx,hn,hm]
 have d3y:dup3 ys x y=bM (ak xs x).2.1 ((n:Nat):Int) ((n+1:Nat):Int) (dup2 ys y) (m-1):=by
  unfold dup3;rw[←(kI (x:=x) (by rw[ng];omega) _).1,fy,←hl,ey,hm]
 have hpp:=fun p=>zo (xs:=xs) (y:=y) (lab:=(ak xs x).2.1) (p:=p) (m-1)
 have hbk:∀p:aC,p.1.toNat<n→aj (bM (ak xs x).2.1 ((n:Nat):Int) ((n+1:Nat):Int) (dup2 xs y) (m-1)) p→aj xs p:=fun p hlt hp=>H7 (by rw[hn];exact hlt) (qL (by rw[hP];omega) hp)
 have hin:∀p:aC,aj xs p→aj (bM (ak xs x).2.1 ((n:Nat):Int) ((n+1:Nat):Int) (dup2 xs y) (m-1)) p:=fun p hp=>jA (Ac hp) _
 have hfan:∀i:Nat,i<m-1→aj (bM (ak xs x).2.1 ((n:Nat):Int) ((n+1:Nat):Int) (dup2 xs y) (m-1)) (((n+2+i:Nat):Int),0):=fun i hi=>by
  have:=wY (x:=x) (c:=((n:Nat):Int)) (d:=((n+1:Nat):Int)) (xs:=dup2 xs y) hi;rw[←(kI (x:=x) (by rw[hP];omega) _).1,fx,hP]at this;exact this
 rw[hn,hm]at hpp;have hcn:=jA (lab:=(ak xs x).2.1) (c:=((n:Nat):Int)) (d:=((n+1:Nat):Int)) (hc 0 (Int.le_refl _) (by omega)).1 (m-1);have hdn:=jA (lab:=(ak xs x).2.1) (c:=((n:Nat):Int)) (d:=((n+1:Nat):Int)) (hc 0 (Int.le_refl _) (by omega)).2 (m-1);have inx:∀s:Int,0≤s→s<3→aj xs (x,s):=fun s h0 h1=>⟨k.px.1,k.px.2.1,h0,by show s<((ak xs x).2.2.2.2.length:Nat);omega⟩
 have iny:∀s:Int,0≤s→s<(m:Nat)→aj xs (y,s):=fun s h0 h1=>⟨k.py.1,k.py.2.1,h0,by show s<((ak xs y).2.2.2.2.length:Nat);rw[hm];exact h1⟩
 unfold iO Mg;rw[d3x,d3y,←hl,hn,ey,hm];generalize bM (ak xs x).2.1 ((n:Nat):Int) ((n+1:Nat):Int) (dup2 xs y) (m-1)=A at*;generalize bM (ak xs x).2.1 ((n:Nat):Int) ((n+1:Nat):Int) (dup2 ys y) (m-1)=B at*;have s4:=s3.move (old:=(x,1)) (now:=((n:Nat),0)) (hin _ (inx 1 (by decide) (by decide))) k.lx (by simp only[Prod.mk.injEq,ne_eq,and_true,true_and,or_true,true_or];omega) hcn (nd _ (Nat.le_refl _)) (.inr (.inr (.inl ⟨.inl rfl,.inl rfl⟩)));have s5:=s4.move (old:=(x,2)) (now:=((n+1:Nat),0)) (hin _ (inx 2 (by decide) (by decide))).move k.lx (by simp only[Prod.mk.injEq,ne_eq,and_true,true_and,or_true,true_or];omega) hdn.move (nd _ (by omega)) (by simp only[Prod.mk.injEq,ne_eq,and_true,true_and,or_true,true_or];omega)
 have s6:=zI (y:=y) (b:=n+2) (m:=m-1) (fun i hi=>by simp only[Prod.mk.injEq,ne_eq,and_true,true_and,or_true,true_or];omega) ⟨(hin _ (iny 0 (Int.le_refl _) (by omega))).move.move,fun i hi=>⟨(hin _ (iny _ (by omega) (by omega))).move.move,(hfan i hi).move.move⟩⟩ k.ly (fun i=>nd _ (by omega)) (by omega) s5 (m-1) (Nat.le_refl _);refine s6.Ia x0 y0 fun p hp _=> ?_
 rw[sH,aj.gJ,aj.gJ]at hp;obtain⟨q1,q2,q3,q4⟩:=hpp p hp
 have q5:p.1=x→p.2<3:=fun e=>by
  have:=(hbk p (by omega) hp).2.2.2;rw[e]at this;have h2:p.2<((ak xs x).2.2.2.2.length:Nat):=this;omega
 have q6:p.1=y→p.2<(m:Nat):=fun e=>by
  have:=(hbk p (by omega) hp).2.2.2;rw[e]at this;have h2:p.2<((ak xs y).2.2.2.2.length:Nat):=this;omega
 clear hpp hbk hin hfan s0 s2 s3 s4 s5 s6 hc inx iny nd;obtain⟨a,s⟩:=p;simp only[Prod.mk.injEq,ne_eq]at*;omega
end
end Go.Tr
namespace Go.Tr
open Go Go.RowKit
section
variable {D:Int→Prop}{xs ys:List ah}{x y:Int}
theorem tJ{zs:List ah}{p:aC}(q:aC)(hp:aj xs p):aG (xs++zs) p q=aG xs p q++zs:=by
 have hl:=xJ hp;unfold aG;rw[dI hl,List.set_append_left _ _ hl]
theorem Im{zs:List ah}{p q:aC}(hp:aj xs p)(hq:aj xs q):aT (xs++zs) p q=aT xs p q++zs:=by
 unfold aT;rw[tJ q hp,tJ p hq.set]
theorem Ey{p q r s:aC}(hp:aj xs p)(hq:aj xs q)(hr:aj xs r)(hs:aj xs s)(pr:p≠r)(ps:p≠s)(qr:q≠r)(qs:q≠s):aT (aT xs p q) r s=aT (aT xs r s) p q:=by
 unfold aT;rw[jl hq.set hr.set qr,jl (xs:=xs) hp hr pr];rw[jl (xs:=aG (aG xs r s) p q) hq.set.set hs.set.set qs,jl (xs:=aG xs r s) hp.set hs.set ps]
theorem IB{W:List ah}{a:ah}{old now P Q:aC}(ho:aj W old)(hpe:aj W (aB W old))(hn:aj W now)(hP:aj (W++[a]) P)(hPl:(W.length:Int)≤P.1)(hQ:aj W Q)(oq:old≠Q)(pq:aB W old≠Q)(nq:now≠Q):
  eD (aT (W++[a]) P Q) old now=aT (eD W old now++[a]) P Q:=by
 have far:∀r:aC,aj W r→r≠P:=fun r hr e=>by have:=hr.2.1;rw[e]at this;omega
 have e1:aB (aT (W++[a]) P Q) old=aB W old:=by
  rw[gX hP hQ.app ho.app,if_neg (fun e=>oq e.symm),if_neg (fun e=>far old ho e.symm),kg (xJ ho)]
 unfold eD;rw[e1,Ey hP hQ.app hpe.app hn.app (fun e=>far _ hpe e.symm) (fun e=>far _ hn e.symm) (fun e=>pq e.symm) (fun e=>nq e.symm),Im hpe hn]
theorem FM{P Q:List ah}{lv:Int}{n m:Nat}(hn:P.length=n+1)(xl:x<(n:Nat))(yl:y<(n:Nat))(x0:0≤x)(xy:x≠y)(xd:¬D x)(hD:∀i,D i→i<(n:Nat))(hx:∀s:Int,0≤s→s<(m:Nat)→aj P (x,s))(hr:aj P ((n:Nat),0))
  (h:SX D (fun p=>p=(x,0)∨p=(y,0)∨p.1=(n:Nat)) P Q) (h1:∀p,aj P p→p.1=(n:Nat)→p.2=0):∀k:Nat,k+1≤m→
  SX D (fun p=>(p.1=x∧p.2≤(k:Nat))∨p=(y,0)∨p=kW (n+1) k) (vR lv x (n+1) P k) (vR lv x (n+1) Q k)
 |0,_=>h.congr fun p hp _=>by
  have h2:=h1 p hp;obtain⟨q1,q2,q3,_⟩:=hp;unfold kW;obtain⟨a,s⟩:=p;rw[hn]at q2;simp only[Prod.mk.injEq]at*;omega
 |k+1,hk=>by
  have ih:=FM (lv:=lv) hn xl yl x0 xy xd hD hx hr h h1 k (by omega);have hl:(vR lv x (n+1) P k).length=n+1+k:=by rw[sw,hn]
  have nd:∀i:Nat,n≤i→¬D (i:Nat):=fun i hi e=>by have:=hD _ e;omega
  have hxk:=D7 (lv:=lv) (x:=x) (b:=n+1) (hx ((k+1:Nat):Int) (by omega) (by omega)) k
  have hR:aj (vR lv x (n+1) P k) (kW (n+1) k):=by
   have:=Jt (lv:=lv) (x:=x) (xs:=P) (by rw[hn];exact hr) k;rw[hn]at this;exact this
  have hR1:(n:Int)≤(kW (n+1) k).1∧(kW (n+1) k).1<((n+1+k:Nat):Int):=by
   cases k with
   |zero=>unfold kW;simp only[];omega
   |succ k=>unfold kW;simp only[];omega
  have s1:=ih.add (bH 3 lv 0 [] 3);rw[hl]at s1;have f0:aj (vR lv x (n+1) P k++[bH 3 lv 0 [] 3]) ((n+1+k:Nat),0):=aj.bT.2 (.inr ⟨by rw[hl],Int.le_refl _,show(0:Int)<3 by decide⟩);have f1:aj (vR lv x (n+1) P k++[bH 3 lv 0 [] 3]) ((n+1+k:Nat),1):=aj.bT.2 (.inr ⟨by rw[hl],show(0:Int)≤1 by decide,show(1:Int)<3 by decide⟩);have hRd:¬D (kW (n+1) k).1:=fun e=>by have:=hD _ e;omega
  have s2:=s1.link (p:=kW (n+1) k) (q:=((n+1+k:Nat),0)) hR.app hRd (.inl (.inr (.inr rfl))) f0 (nd _ (by omega)) (.inr rfl) (fun e=>by rw[e]at hR1;have:=hR1.2;have h3:((n+1+k:Nat):Int)<((n+1+k:Nat):Int):=this;omega)
  have s3:=s2.move (old:=(x,((k+1:Nat):Int))) (now:=((n+1+k:Nat),1)) hxk.app.link xd (by
   rintro⟨(⟨_,e⟩|e|e)|e,_,_⟩
   ·have:((k+1:Nat):Int)≤(k:Nat):=e;omega
   ·exact bN (.inl xy) e
   ·rw[←e]at hR1;have:=hR1.1;have h3:(n:Int)≤x:=this;omega
   ·have:x=((n+1+k:Nat):Int):=e;omega) f1.link (nd _ (by omega)) ⟨.inr rfl,fun e=>by rw[←e]at hR1;have:=hR1.2;have h3:((n+1+k:Nat):Int)<((n+1+k:Nat):Int):=this;omega,bN (.inr (by decide))⟩
  show SX D _ (vR lv x (n+1) P (k+1)) (vR lv x (n+1) Q (k+1));unfold vR;refine s3.congr fun p hp _=> ?_
  rw[aj.gJ,aj.gH,aj.bT,hl]at hp
  have hp':p.1<((n+1+k:Nat):Int)∨(p.1=((n+1+k:Nat):Int)∧0≤p.2∧p.2<3):=by
   rcases hp with hp|hp
   ·have:=hp.2.1;rw[hl]at this;exact .inl this
   ·exact .inr hp
  have e2:kW (n+1) (k+1)=(((n+1+k:Nat):Int),2):=rfl;rw[e2];obtain⟨a,s⟩:=p;generalize hRR:kW (n+1) k=R at*;obtain⟨ra,rs⟩:=R;simp only[Prod.mk.injEq,ne_eq]at*;omega
theorem SX.self{X:aC→Prop}(h:SX D X xs ys):SX D X xs xs:=⟨⟨rfl,fun _ _ _ _=>rfl⟩,h.wi,h.al⟩
theorem z8{n k:Nat}:(n:Int)≤(kW (n+1) k).1∧(kW (n+1) k).1<((n+1+k:Nat):Int)∧(kW (n+1) k).2≠1:=by
 cases k with
 |zero=>unfold kW;simp only[];omega
 |succ k=>unfold kW;simp only[];omega
theorem FK{P Q:List ah}{lv:Int}{n:Nat}(hn:P.length=n+1)(xl:x<(n:Nat))(yl:y<(n:Nat))(hD:∀i,D i→i<(n:Nat))(hr:aj P ((n:Nat),0))
  (h:SX D (fun p=>p=(x,0)∨p=(y,0)∨p.1=(n:Nat)) P Q) (h1:∀p,aj P p→p.1=(n:Nat)→p.2=0):∀k:Nat,
  SX D (fun p=>p=(x,0)∨p=(y,0)∨(((n+1:Nat):Int)≤p.1∧p.2=1)∨p=kW (n+1) k) (qE lv (n+1) P k) (qE lv (n+1) Q k)
 |0=>h.congr fun p hp _=>by
  have h2:=h1 p hp;obtain⟨q1,q2,q3,_⟩:=hp;unfold kW;obtain⟨a,s⟩:=p;rw[hn]at q2;simp only[Prod.mk.injEq]at*;omega
 |k+1=>by
  have ih:=FK (lv:=lv) hn xl yl hD hr h h1 k;have hl:(qE lv (n+1) P k).length=n+1+k:=by rw[su,hn]
  have nd:∀i:Nat,n≤i→¬D (i:Nat):=fun i hi e=>by have:=hD _ e;omega
  obtain⟨r1,r2,r3⟩:=z8 (n:=n) (k:=k)
  have hR:aj (qE lv (n+1) P k) (kW (n+1) k):=by
   have:=FH (lv:=lv) (xs:=P) (by rw[hn];exact hr) k;rw[hn]at this;exact this
  have s1:=ih.add (bH 3 lv 0 [] 3);rw[hl]at s1;have f0:aj (qE lv (n+1) P k++[bH 3 lv 0 [] 3]) ((n+1+k:Nat),0):=aj.bT.2 (.inr ⟨by rw[hl],Int.le_refl _,show(0:Int)<3 by decide⟩);have s2:=s1.link (p:=((n+1+k:Nat),0)) (q:=kW (n+1) k) f0 (nd _ (by omega)) (.inr rfl) hR.app (fun e=>by have:=hD _ e;omega) (.inl (.inr (.inr (.inr rfl)))) (fun e=>by rw[←e]at r2;have h3:((n+1+k:Nat):Int)<((n+1+k:Nat):Int):=r2;omega);unfold qE;refine s2.congr fun p hp _=> ?_
  rw[aj.gH,aj.bT,hl]at hp
  have hp':p.1<((n+1+k:Nat):Int)∨(p.1=((n+1+k:Nat):Int)∧0≤p.2∧p.2<3):=by
   rcases hp with hp|hp
   ·have:=hp.2.1;rw[hl]at this;exact .inl this
   ·exact .inr hp
  have e2:kW (n+1) (k+1)=(((n+1+k:Nat):Int),2):=rfl;rw[e2];obtain⟨a,s⟩:=p;generalize hRR:kW (n+1) k=R at*;obtain⟨ra,rs⟩:=R;simp only[Prod.mk.injEq,ne_eq]at*;omega
theorem FE{Z:List ah}{n m k:Nat}(xl:x<(n:Nat))(x0:0≤x)(xy:x≠y)(xd:¬D x)(hD:∀i,D i→i<(n:Nat))(hx:∀s:Int,0≤s→s<(m:Nat)→aj Z (x,s))(hz:∀i:Nat,i<k→aj Z (((n+1+i:Nat):Int),1))(hl:Z.length=n+1+k)
  (h:SX D (fun p=>p=(x,0)∨p=(y,0)∨(((n+1:Nat):Int)≤p.1∧p.2=1)∨p=kW (n+1) k) Z Z):∀j:Nat,j≤k→j+1≤m→
  SX D (fun p=>(p.1=x∧p.2≤(j:Nat))∨p=(y,0)∨(((n+1+j:Nat):Int)≤p.1∧p.2=1)∨p=kW (n+1) k) (Ca x (n+1) Z j) (Ca x (n+1) Z j)
 |0,_,_=>h.congr fun p hp _=>by
  obtain⟨q1,q2,q3,_⟩:=hp;obtain⟨a,s⟩:=p;generalize kW (n+1) k=R;obtain⟨ra,rs⟩:=R;simp only[Prod.mk.injEq]at*;omega
 |j+1,hj,hm=>by
  have ih:=FE xl x0 xy xd hD hx hz hl h j (by omega) (by omega);obtain⟨r1,r2,r3⟩:=z8 (n:=n) (k:=k);have nd:∀i:Nat,n≤i→¬D (i:Nat):=fun i hi e=>by have:=hD _ e;omega
  have s1:=ih.move (old:=(x,((j:Nat):Int)+1)) (now:=(((n+1+j:Nat):Int),1)) (mJ (hx _ (by omega) (by omega)) j) xd (by
   generalize kW (n+1) k=R at*;obtain⟨ra,rs⟩:=R;simp only[Prod.mk.injEq,ne_eq]at*;omega) (mJ (hz j (by omega)) j) (nd _ (by omega)) (.inr (.inr (.inl ⟨Int.le_refl _,rfl⟩)))
  unfold Ca;refine s1.congr fun p hp _=> ?_
  have q3:=hp.2.2.1;have q2:=hp.2.1;obtain⟨a,s⟩:=p;generalize hRR:kW (n+1) k=R at*;obtain⟨ra,rs⟩:=R;simp only[Prod.mk.injEq,ne_eq]at*;omega
theorem NK{P:List ah}{lv:Int}{n m:Nat}(hn:P.length=n+1)(xl:x<(n:Nat))(yl:y<(n:Nat))(x0:0≤x)(xy:x≠y)(xd:¬D x)(hD:∀i,D i→i<(n:Nat))(hx:∀s:Int,0≤s→s<(m:Nat)→aj P (x,s))(hr:aj P ((n:Nat),0))
  (h:SX D (fun p=>p=(x,0)∨p=(y,0)∨p.1=(n:Nat)) P P) (h1:∀p,aj P p→p.1=(n:Nat)→p.2=0):∀k:Nat,k+1≤m→Ca x (n+1) (qE lv (n+1) P k) k=vR lv x (n+1) P k
 |0,_=>rfl
 |k+1,hk=>by
  have ih:=NK (lv:=lv) hn xl yl x0 xy xd hD hx hr h h1 k (by omega);have hl:(qE lv (n+1) P k).length=n+1+k:=by rw[su,hn]
  have nd:∀i:Nat,n≤i→¬D (i:Nat):=fun i hi e=>by have:=hD _ e;omega
  obtain⟨r1,r2,r3⟩:=z8 (n:=n) (k:=k)
  have hR:aj (qE lv (n+1) P k) (kW (n+1) k):=by
   have:=FH (lv:=lv) (xs:=P) (by rw[hn];exact hr) k;rw[hn]at this;exact this
  have hxN:∀s:Int,0≤s→s<(m:Nat)→aj (qE lv (n+1) P k) (x,s):=fun s a b=>zZ (hx s a b) k
  have hzN:∀i:Nat,i<k→aj (qE lv (n+1) P k) (((n+1+i:Nat):Int),1):=fun i hi=>by
   have:=wz (lv:=lv) (xs:=P) (s:=1) (by decide) (by decide) hi;rw[hn]at this;exact this
  have sN:=FK (lv:=lv) hn xl yl hD hr h h1 k
  have key:∀j:Nat,j≤k→Ca x (n+1) (aT (qE lv (n+1) P k++[bH 3 lv 0 [] 3]) ((n+1+k:Nat),0) (kW (n+1) k)) j=aT (Ca x (n+1) (qE lv (n+1) P k) j++[bH 3 lv 0 [] 3]) ((n+1+k:Nat),0) (kW (n+1) k):=by
   intro j
   induction j with
   |zero=>intro _;rfl
   |succ j ihj=>
    intro hj;have e:=ihj (by omega);have sM:=FE (k:=k) xl x0 xy xd hD hxN hzN hl sN j (by omega) (by omega);have hlW:(Ca x (n+1) (qE lv (n+1) P k) j).length=n+1+k:=by rw[FC,hl]
    show eD (Ca x (n+1) (aT (qE lv (n+1) P k++[bH 3 lv 0 [] 3]) ((n+1+k:Nat),0) (kW (n+1) k)) j) (x,((j:Nat):Int)+1) (((n+1+j:Nat):Int),1)=aT (eD (Ca x (n+1) (qE lv (n+1) P k) j) (x,((j:Nat):Int)+1) (((n+1+j:Nat):Int),1)++[bH 3 lv 0 [] 3]) _ _;rw[e];have ho:=mJ (x:=x) (b:=n+1) (hxN (((j:Nat):Int)+1) (by omega) (by omega)) j
    have hw:=sM.wi (x,((j:Nat):Int)+1) ⟨⟨ho,xd⟩,by
     generalize kW (n+1) k=R at*;obtain⟨ra,rs⟩:=R;simp only[Prod.mk.injEq]at*;omega⟩
    refine IB ho hw.2.1.1.1 (mJ (hzN j (by omega)) j) (aj.bT.2 (.inr ⟨by rw[hlW],Int.le_refl _,show(0:Int)<3 by decide⟩)) (by rw[hlW];exact Int.le_refl _) (mJ hR j) ?_ (fun e=>hw.2.1.2 (.inr (.inr (.inr e)))) ?_
    ·intro e;rw[←e]at r1;have:(n:Int)≤x:=r1;omega
    ·intro e;rw[←e]at r3;exact r3 rfl
  show eD (Ca x (n+1) (aT (qE lv (n+1) P k++[bH 3 lv 0 [] 3]) (((n+1+k:Nat):Int),0) (kW (n+1) k)) k) (x,((k:Nat):Int)+1) (((n+1+k:Nat):Int),1)=eD (aT (vR lv x (n+1) P k++[bH 3 lv 0 [] 3]) (kW (n+1) k) (((n+1+k:Nat):Int),0)) (x,((k+1:Nat):Int)) (((n+1+k:Nat):Int),1);rw[key k (Nat.le_refl _),ih];have hlS:(vR lv x (n+1) P k).length=n+1+k:=by rw[sw,hn]
  have hRS:aj (vR lv x (n+1) P k) (kW (n+1) k):=by
   have:=Jt (lv:=lv) (x:=x) (xs:=P) (by rw[hn];exact hr) k;rw[hn]at this;exact this
  rw[xI (aj.bT.2 (.inr ⟨by rw[hlS],Int.le_refl _,show(0:Int)<3 by decide⟩)) hRS.app];rfl
theorem wT{lv:Int}{b:Nat}{P:List ah}{p:aC}(hlt:p.1.toNat<P.length):∀{k:Nat},aj (vR lv x b P k) p→aj P p
 |0,h=>h
 |k+1,h=>by
  unfold vR at h;rw[aj.gJ,aj.gH,aj.bT,sw]at h;rcases h with h|⟨h,_⟩
  ·exact wT hlt h
  ·omega
theorem St.choose(h:St D xs ys)(k:kH D xs x y)(hD:∀i,D i→i<(xs.length:Nat))(h6:(ak xs x).1=6↔(ak xs y).1=11)(hx:(ak xs x).1=6→(ak xs x).2.2.2.2.length=1)(hx1:1≤(ak xs x).2.2.2.2.length)(hy:(ak xs y).2.2.2.2.length=2):
  St (fun i=>D i∨i=x∨i=y) (nS xs x y) (dN (dN (sD ys x y) x) y):=by
 have ey:ak ys y=ak xs y:=(h.ag.2 y k.py.1 k.py.2.1 k.ly).symm;have ex:ak ys x=ak xs x:=(h.ag.2 x k.px.1 k.px.2.1 k.lx).symm;have hl:xs.length=ys.length:=h.ag.1;have xl:x<(xs.length:Nat):=k.px.2.1;have yl:y<(xs.length:Nat):=k.py.2.1;have x0:0≤x:=k.px.1;have y0:0≤y:=k.py.1;have hne:=k.ne;have nd:∀i:Nat,xs.length≤i→¬D (i:Nat):=fun i hi e=>by have:=hD _ e;omega
 have iny1:aj xs (y,1):=⟨k.py.1,k.py.2.1,show(0:Int)≤1 by decide,by show(1:Int)<((ak xs y).2.2.2.2.length:Nat);omega⟩;have hkb:((ak xs x).1==6)=((ak xs y).1==11):=by rw[Bool.eq_iff_iff];simpa using h6
 have s1:∀i:Int,SX D (fun p=>p=(x,0)∨p=(y,0)∨p.1=(xs.length:Nat)) (fM xs y i) (fM ys y i):=fun i=>by
  unfold fM;rw[ey];refine((SX.start h k).add _).congr fun p _ _=> ?_
  constructor
  ·rintro(e|e|e)
   ·exact .inl (.inl e)
   ·exact .inl (.inr e)
   ·exact .inr e
  ·rintro((e|e)|e)
   ·exact .inl e
   ·exact .inr (.inl e)
   ·exact .inr (.inr e)
 have hlen:∀i:Int,(fM xs y i).length=xs.length+1:=fun i=>by unfold fM;rw[List.length_append];rfl
 have hnew:∀i:Int,aj (fM xs y i) ((xs.length:Nat),0):=fun i=>aj.bT.2 (.inr ⟨rfl,Int.le_refl _,show(0:Int)<1 by decide⟩)
 have h1:∀(i:Int) p,aj (fM xs y i) p→p.1=(xs.length:Nat)→p.2=0:=fun i p hp e=>by
  rcases aj.bT.1 hp with q|⟨_,q2,q3⟩
  ·have:=q.2.1;omega
  ·have:p.2<1:=q3;omega
 have hback:∀(i:Int) (p:aC),p.1.toNat<xs.length→aj (fM xs y i) p→aj xs p:=fun i p hlt hp=>by
  rcases aj.bT.1 hp with q|⟨q,_⟩
  ·exact q
  ·omega
 have hin:∀(i:Int) (p:aC),aj xs p→aj (fM xs y i) p:=fun i p hp=>hp.app
 unfold nS sD;rw[ex,ey,hkb,←hl];cases hk:(ak xs y).1==11 with
 |true=>
  simp only[cond_true];have h3:=hx (h6.2 (by simpa using hk));generalize (bif (ak xs x).2.2.1==0 then(1:Int)else 0)=i;have s2:=(s1 i).move (old:=(y,1)) (now:=((xs.length:Nat),0)) (hin i _ iny1) k.ly (by simp only[Prod.mk.injEq];omega) (hnew i) (nd _ (Nat.le_refl _)) (.inr (.inr rfl));refine s2.Ia x0 y0 fun p hp _=> ?_
  rw[aj.gJ]at hp;have q0:=h1 i p hp;have q1:=hp.2.2.1;have q2:=hp.1
  have q4:p.1=x→p.2<1:=fun e=>by
   have:=(hback i p (by omega) hp).2.2.2;rw[e]at this;have h2:p.2<((ak xs x).2.2.2.2.length:Nat):=this;omega
  have q5:p.1=y→p.2<2:=fun e=>by
   have:=(hback i p (by omega) hp).2.2.2;rw[e]at this;have h2:p.2<((ak xs y).2.2.2.2.length:Nat):=this;omega
  obtain⟨a,s⟩:=p;simp only[Prod.mk.injEq,ne_eq]at*;omega
 |false=>
  simp only[cond_false];generalize (ak xs x).2.2.1=i;generalize (ak xs y).2.1=lv;have hxi:∀s:Int,0≤s→s<((ak xs x).2.2.2.2.length:Nat)→aj (fM xs y i) (x,s):=fun s a b=>hin i _ ⟨x0,xl,a,b⟩
  rw[NK (lv:=lv) (hlen i) xl yl x0 k.ne k.lx hD hxi (hnew i) (s1 i).self (h1 i) ((ak xs x).2.2.2.2.length-1) (by omega)];have s2:=FM (lv:=lv) (hlen i) xl yl x0 k.ne k.lx hD hxi (hnew i) (s1 i) (h1 i) ((ak xs x).2.2.2.2.length-1) (by omega);generalize hm:(ak xs x).2.2.2.2.length=m at*;obtain⟨r1,r2,r3⟩:=z8 (n:=xs.length) (k:=m-1)
  have hR:aj (vR lv x (xs.length+1) (fM xs y i) (m-1)) (kW (xs.length+1) (m-1)):=by
   have:=Jt (lv:=lv) (x:=x) (xs:=fM xs y i) (by rw[hlen];exact hnew i) (m-1);rw[hlen]at this;exact this
  have s3:=s2.move (old:=(y,1)) (now:=kW (xs.length+1) (m-1)) (D7 (hin i _ iny1) _) k.ly (by
   generalize kW (xs.length+1) (m-1)=R at*;obtain⟨ra,rs⟩:=R;simp only[Prod.mk.injEq]at*;omega) hR (fun e=>by have:=hD _ e;omega) (.inr (.inr rfl))
  refine s3.Ia x0 y0 fun p hp _=> ?_
  rw[aj.gJ]at hp;have q1:=hp.2.2.1;have q2:=hp.1
  have q4:p.1=x→p.2<(m:Nat):=fun e=>by
   have:=(hback i p (by omega) (wT (by rw[hlen];omega) hp)).2.2.2;rw[e]at this;have h2:p.2<((ak xs x).2.2.2.2.length:Nat):=this;omega
  have q5:p.1=y→p.2<2:=fun e=>by
   have:=(hback i p (by omega) (wT (by rw[hlen];omega) hp)).2.2.2;rw[e]at this;have h2:p.2<((ak xs y).2.2.2.2.length:Nat):=this;omega
  generalize kW (xs.length+1) (m-1)=R at*;obtain⟨ra,rs⟩:=R;obtain⟨a,s⟩:=p;clear h1 hback hin hxi s1 s2 s3 hnew hlen nd;simp only[Prod.mk.injEq,ne_eq]at*;omega
end
end Go.Tr
namespace Go.Tr
open Go Go.RowKit
section
variable {D:Int→Prop}{X:aC→Prop}{xs ys:List ah}{x y:Int}
theorem qR{t:List ah}{b i:Int}(hb:b=(xs.length:Int)-1)(h1:(xs.length:Int)≤i)(h2:i-b<(t.length:Nat)):ak (xs++(t.drop 1).map (fO b)) i=fO b (ak t (i-b)):=by
 unfold ak elt;rw[List.getD_eq_getElem?_getD,List.getElem?_append_right (by omega),List.getElem?_map,List.getElem?_drop];have e:1+(i.toNat-xs.length)=(i-b).toNat:=by omega
 rw[e,List.getD_eq_getElem?_getD,List.getElem?_eq_getElem (by omega)];rfl
theorem IC(t:List ah)(b:Int):((t.drop 1).map (fO b)).length=t.length-1:=by rw[List.length_map,List.length_drop]
theorem aj.jZ{t:List ah}{b:Int}{p:aC}(hb:b=(xs.length:Int)-1):aj (xs++(t.drop 1).map (fO b)) p↔aj xs p∨((xs.length:Int)≤p.1∧aj t (p.1-b,p.2)):=by
 have hml:=IC t b;have hpl:∀a:ah,(fO b a).aQ.length=a.aQ.length:=fun a=>by show(List.map _ _).length=_;rw[List.length_map]
 constructor
 ·intro h;have h':=h;obtain⟨h1,h2,h3,h4⟩:=h;rw[List.length_append,hml]at h2
  by_cases hl:p.1.toNat<xs.length
  ·rw[dI hl]at h4;exact .inl ⟨h1,by omega,h3,h4⟩
  ·have hlt:p.1-b<(t.length:Nat):=by omega
   rw[qR hb (by omega) hlt,hpl]at h4;exact .inr ⟨by omega,by show 0≤p.1-b;omega,hlt,h3,h4⟩
 ·rintro(h|⟨h,h1,h2,h3,h4⟩)
  ·exact h.app
  ·have h2':p.1-b<(t.length:Nat):=h2;refine⟨by omega,by rw[List.length_append,hml];omega,h3,?_⟩;rw[qR hb h h2',hpl];exact h4
theorem pI{t:List ah}{b:Int}{p:aC}(hb:b=(xs.length:Int)-1)(h:(xs.length:Int)≤p.1)(hp:aj t (p.1-b,p.2)):aB (xs++(t.drop 1).map (fO b)) p=((aB t (p.1-b,p.2)).1+b,(aB t (p.1-b,p.2)).2):=by
 obtain⟨h1,h2,h3,h4⟩:=hp;unfold aB;rw[qR hb h h2];show elt (dflt aO) (List.map _ _) p.2=_;unfold elt
 have h4':p.2.toNat<(ak t (p.1-b)).aQ.length:=by
  have h5:p.2<((ak t (p.1-b)).aQ.length:Nat):=h4;have h6:0≤p.2:=h3;omega
 rw[List.getD_eq_getElem?_getD,List.getElem?_map,List.getElem?_eq_getElem h4'];show _=(((ak t (p.1-b)).aQ.getD p.2.toNat (dflt aO)).1+b,((ak t (p.1-b)).aQ.getD p.2.toNat (dflt aO)).2);rw[List.getD_eq_getElem?_getD,List.getElem?_eq_getElem h4'];rfl
theorem SX.Sv{t:List ah}{b:Int}(hb:b=(xs.length:Int)-1)(ht:dX (fun p=>aj t p) t)(h0:aj t (0,0))(h00:∀p,aj t p→p.1=0→p=(0,0))(hD:∀i,D i→i<(xs.length:Nat))(hX:∀p,X p→p.1<(xs.length:Nat))(h:SX D X xs ys):
  SX D (fun p=>X p∨p=((aB t (0,0)).1+b,(aB t (0,0)).2)) (xs++(t.drop 1).map (fO b)) (ys++(t.drop 1).map (fO b)):=by
 obtain⟨r1,r2,r3,r4⟩:=ht (0,0) h0;have rR:aj t (aB t (0,0)):=r2
 have rpos:1≤(aB t (0,0)).1:=by
  have h1:=rR.1
  by_cases e:(aB t (0,0)).1=0
  ·exact absurd (h00 _ rR e) r4
  ·omega
 refine⟨h.ag.app _,fun p hp=> ?_,fun p hp=>hp.1.2⟩;obtain⟨⟨p1,p2⟩,p3⟩:=hp;rcases(aj.jZ hb).1 p1 with q|⟨q1,q2⟩
 ·obtain⟨w1,w2,w3,w4⟩:=h.wi p ⟨⟨q,p2⟩,fun k=>p3 (.inl k)⟩;have e:=kg (ys:=(t.drop 1).map (fO b)) (xJ q);refine⟨p1,?_,by rw[e,kg (xJ w2.1.1),w3],by rw[e];exact w4⟩;rw[e];refine⟨⟨w2.1.1.app,w2.1.2⟩,fun k=> ?_⟩;rcases k with k|k
  ·exact w2.2 k
  ·have:=w2.1.1.2.1;rw[k]at this;have h2:(aB t (0,0)).1+b<(xs.length:Nat):=this;omega
 ·obtain⟨w1,w2,w3,w4⟩:=ht _ q2;have w2':aj t (aB t (p.1-b,p.2)):=w2;have e:=pI hb q1 q2
  have hne:(aB t (p.1-b,p.2)).1≠0:=fun e0=>by
   have e1:=h00 _ w2' e0;rw[e1]at w3;exact p3 (.inr (bQ (by rw[w3];show p.1=p.1-b+b;omega) (by rw[w3])))
  have hge:1≤(aB t (p.1-b,p.2)).1:=by have:=w2'.1;omega
  have hin:aj (xs++(t.drop 1).map (fO b)) ((aB t (p.1-b,p.2)).1+b,(aB t (p.1-b,p.2)).2):=(aj.jZ hb).2 (.inr ⟨by show(xs.length:Int)≤(aB t (p.1-b,p.2)).1+b;omega,by
   rw[show(((aB t (p.1-b,p.2)).1+b,(aB t (p.1-b,p.2)).2):aC).1-b=(aB t (p.1-b,p.2)).1 by show(aB t (p.1-b,p.2)).1+b-b=_;omega];exact w2'⟩)
  refine⟨p1,?_,?_,?_⟩
  ·rw[e];refine⟨⟨hin,fun k=> ?_⟩,fun k=> ?_⟩
   ·have:=hD _ k;have h2:(aB t (p.1-b,p.2)).1+b<(xs.length:Nat):=this;omega
   ·rcases k with k|k
    ·have:=hX _ k;have h2:(aB t (p.1-b,p.2)).1+b<(xs.length:Nat):=this;omega
    ·have e2:aB t (p.1-b,p.2)=aB t (0,0):=by
      injection k with k1 k2
      exact bQ (by omega) k2
     rw[e2,r3]at w3;injection w3 with w5 w6
     omega
  ·rw[e,pI hb (by show(xs.length:Int)≤(aB t (p.1-b,p.2)).1+b;omega) (by
    rw[show(((aB t (p.1-b,p.2)).1+b,(aB t (p.1-b,p.2)).2):aC).1-b=(aB t (p.1-b,p.2)).1 by show(aB t (p.1-b,p.2)).1+b-b=_;omega];exact w2')]
   have e3:((((aB t (p.1-b,p.2)).1+b,(aB t (p.1-b,p.2)).2):aC).1-b,(((aB t (p.1-b,p.2)).1+b,(aB t (p.1-b,p.2)).2):aC).2)=aB t (p.1-b,p.2):=bQ (by show(aB t (p.1-b,p.2)).1+b-b=_;omega) rfl;rw[e3,w3];exact bQ (by show p.1-b+b=p.1;omega) rfl
  ·rw[e];intro k;refine w4 (bQ ?_ ?_)
   ·have:=congrArg Prod.fst k;show(aB t (p.1-b,p.2)).1=p.1-b;have h2:(aB t (p.1-b,p.2)).1+b=p.1:=this;omega
   ·have h2:=congrArg Prod.snd k;exact h2
theorem nZ(lv:Int)(a:ah):(pQ lv a).aQ=a.aQ:=by unfold pQ;cases bn a.kind<;>rfl
theorem qU(lv:Int)(t:List ah){i:Int}(h0:0≤i)(h1:i<(t.length:Nat)):ak (fQ lv t) i=pQ lv (ak t i):=by
 unfold ak elt fQ;rw[List.getD_eq_getElem?_getD,List.getElem?_map,List.getD_eq_getElem?_getD,List.getElem?_eq_getElem (by omega)];rfl
theorem yh(lv:Int)(t:List ah):(fQ lv t).length=t.length:=by unfold fQ;rw[List.length_map]
theorem aj.kC{lv:Int}{t:List ah}{p:aC}:aj (fQ lv t) p↔aj t p:=by
 unfold aj;rw[yh];constructor
 ·rintro⟨h1,h2,h3,h4⟩;rw[qU lv t h1 h2,nZ]at h4;exact⟨h1,h2,h3,h4⟩
 ·rintro⟨h1,h2,h3,h4⟩;refine⟨h1,h2,h3,?_⟩;rw[qU lv t h1 h2,nZ];exact h4
theorem pJ{lv:Int}{t:List ah}{p:aC}(hp:aj t p):aB (fQ lv t) p=aB t p:=by
 unfold aB;rw[qU lv t hp.1 hp.2.1,nZ]
theorem dX.shift{lv:Int}{t:List ah}(h:dX (fun p=>aj t p) t):dX (fun p=>aj (fQ lv t) p) (fQ lv t):=fun p hp=>by
 have hp':=aj.kC.1 hp;obtain⟨h1,h2,h3,h4⟩:=h p hp';rw[pJ hp'];exact⟨hp,aj.kC.2 h2,by rw[pJ h2,h3],h4⟩
theorem St.expand{bk:List (List ah)}(h:St D xs ys)(k:kH D xs x y)(hD:∀i,D i→i<(xs.length:Nat))(hx:(ak xs x).2.2.2.2.length=1)
  (ht:dX (fun p=>aj (gZ bk (ak xs x).2.2.1) p) (gZ bk (ak xs x).2.2.1)) (h0:aj (gZ bk (ak xs x).2.2.1) (0,0)) (h00:∀p,aj (gZ bk (ak xs x).2.2.1) p→p.1=0→p=(0,0)):
  St (fun i=>D i∨i=x) (sJ bk xs x y) (dN (Af (gZ bk (ak ys x).2.2.1) (ak ys x).2.1 ys y) x):=by
 have ex:ak ys x=ak xs x:=(h.ag.2 x k.px.1 k.px.2.1 k.lx).symm;have hl:xs.length=ys.length:=h.ag.1;have xl:x<(xs.length:Nat):=k.px.2.1;have yl:y<(xs.length:Nat):=k.py.2.1;have hne:=k.ne;rw[ex];unfold sJ Af qO;generalize gZ bk (ak xs x).2.2.1=t at*;generalize (ak xs x).2.1=lv;generalize hb:(xs.length:Int)-1=b;have hb':b=(xs.length:Int)-1:=hb.symm
 have e1:OU lv ((ys.length:Int)-1) t (t.length-1)=((fQ lv t).drop 1).map (fO b):=by
  unfold OU;rw[←hl,hb,List.take_of_length_le (by rw[List.length_drop,yh];exact Nat.le_refl _)]
 have s0:=SX.start h k;have s1:=s0.Sv (t:=fQ lv t) hb' ht.shift (aj.kC.2 h0) (fun p hp e=>h00 p (aj.kC.1 hp) e) hD (fun p hp=>by rcases hp with e|e<;>rw[e]<;>assumption);rw[e1,pJ h0]at*;obtain⟨r1,r2,r3,r4⟩:=ht (0,0) h0;have rR:aj t (aB t (0,0)):=r2
 have rpos:1≤(aB t (0,0)).1:=by
  have h1:=rR.1
  by_cases e:(aB t (0,0)).1=0
  ·exact absurd (h00 _ rR e) r4
  ·omega
 generalize aB t (0,0)=R at*
 have hR:aj (xs++((fQ lv t).drop 1).map (fO b)) (R.1+b,R.2):=(aj.jZ hb').2 (.inr ⟨by show(xs.length:Int)≤R.1+b;omega,aj.kC.2 (by
  rw[show((R.1+b,R.2):aC).1-b=R.1 by show R.1+b-b=R.1;omega];exact rR)⟩)
 have s2:=s1.link (p:=(y,0)) (q:=(R.1+b,R.2)) k.py.app k.ly (.inl (.inr rfl)) hR (fun e=>by have:=hD _ e;have h2:R.1+b<(xs.length:Nat):=this;omega) (.inr rfl) (bN (.inl (by omega)))
 have e2:aT (ys++((fQ lv t).drop 1).map (fO b)) ((ys.length:Int)-1+R.1,R.2) (y,0)=aT (ys++((fQ lv t).drop 1).map (fO b)) (y,0) (R.1+b,R.2):=by
  rw[←hl,hb,show b+R.1=R.1+b by omega];refine xI ?_ ?_
  ·have:=(s1.ag.port hR (fun e=>by have:=hD _ e;have h2:R.1+b<(xs.length:Nat):=this;omega)).1;exact this
  ·exact(s1.ag.port (p:=(y,0)) k.py.app k.ly).1
 rw[e2];refine s2.Sc k.px.1 fun p hp _=> ?_
 rw[aj.gH]at hp;constructor
 ·rintro⟨(e|e)|e,e3,e4⟩
  ·rw[e]
  ·exact absurd e e3
  ·exact absurd e e4
 ·intro e;rcases(aj.jZ hb').1 hp with q|⟨q,_⟩
  ·obtain⟨q1,q2,q3,q4⟩:=q;rw[e]at q4;have h3:p.2<((ak xs x).2.2.2.2.length:Nat):=q4;refine⟨.inl (.inl (bQ e (by show p.2=0;omega))),fun e2=> ?_,fun e2=> ?_⟩
   ·rw[e2]at e;exact hne e.symm
   ·rw[e2]at e;have h4:R.1+b=x:=e;omega
  ·omega
end
end Go.Tr
namespace Go.Tr
open Go Go.RowKit
def gA(a:ah):aF:=⟨a.1,a.2.1,a.2.2.1,a.2.2.2.1,a.2.2.2.2.map fun p=>⟨p.1,p.2⟩⟩
theorem Ci(l:List Int):List.flatMap (enc (.int .i64)) l=l.flatMap oZ:=by
 induction l with
 |nil=>rfl
 |cons x l ih=>rw[List.flatMap_cons,List.flatMap_cons,ih];rfl
theorem H9(l:List aC):(l.map fun p=>(⟨p.1,p.2⟩:aR)).flatMap aR.enc=List.flatMap (enc aO) l:=by
 induction l with
 |nil=>rfl
 |cons x l ih=>rw[List.map_cons,List.flatMap_cons,List.flatMap_cons,ih];rfl
theorem JX(a:ah):(gA a).enc=enc aL a:=by
 show[_,_,_,D.sl _ _,D.sl _ _]=[_]++([_]++([_]++([_]++[_])));simp only[List.cons_append,List.nil_append,gA];rw[H9,←Ci,List.length_map]
theorem vg(n:Nat)(f:Nat→Bool):dK (n+1) f=(dK n f&&f n):=by simp[dK,List.range_succ]
def Wf(a:ah):Prop:=bJ (gA a)=true
theorem dZ{a:ah}(h:Wf a):dH a.1 a.2.1=true∧bg (gA a)=true∧(a.2.2.2.2.length:Int)=aV a.1 (bG a.1 a.2.2.2.2.length)∧0<a.2.2.2.2.length:=by
 unfold Wf bJ at h;simp only[Bool.and_eq_true,decide_eq_true_eq,beq_iff_eq]at h;obtain⟨⟨⟨h1,h2⟩,h3⟩,h4⟩:=h;have e:((gA a).aQ.length:Int)=(a.2.2.2.2.length:Int):=by simp[gA]
 have e2:fieldsOf (gA a)=bG a.1 a.2.2.2.2.length:=by unfold fieldsOf;rw[e];rfl
 rw[e,e2]at h2;rw[e2]at h1;exact⟨h3,h4,h2,by(have:0<aV a.1 (bG a.1 a.2.2.2.2.length):=h1);omega⟩
theorem Nu{a:ah}(h:Wf a):1≤a.1∧a.1≤12:=by
 have:=(dZ h).1;unfold dH dz at this;simp only[Bool.and_eq_true]at this;exact lg this.1
theorem p8{a:ah}(h:Wf a):(a.1=1∨a.1=5∨a.1=6∨a.1=12→a.2.2.2.2.length=1)∧(a.1=8∨a.1=10∨a.1=11→a.2.2.2.2.length=2)∧(a.1=2∨a.1=3∨a.1=4∨a.1=7→a.2.2.2.2.length=3)∧(a.1=9→1≤a.2.2.2.2.length∧a.2.2.2.2.length≤4):=by
 obtain⟨_,_,h3,h4⟩:=dZ h;have hf:∀k:Int,k≠9→bG k a.2.2.2.2.length=0:=fun k hk=>by unfold bG;rw[if_neg (by simpa using hk)]
 refine⟨fun e=> ?_,fun e=> ?_,fun e=> ?_,fun e=> ?_⟩
 ·have k9:a.1≠9:=by omega
  rw[hf _ k9]at h3;unfold aV at h3;rw[if_neg k9,if_pos rfl,if_pos e]at h3;omega
 ·have k9:a.1≠9:=by omega
  rw[hf _ k9]at h3;unfold aV at h3;rw[if_neg k9,if_pos rfl,if_neg (by omega),if_pos e]at h3;omega
 ·have k9:a.1≠9:=by omega
  rw[hf _ k9]at h3;unfold aV at h3;rw[if_neg k9,if_pos rfl,if_neg (by omega),if_neg (by omega),if_pos e]at h3;omega
 ·rw[e]at h3;unfold aV bG at h3;simp only[beq_self_eq_true,if_true]at h3
  by_cases hb:fK ((a.2.2.2.2.length:Int)-1) 0 3=true
  ·have:=lg hb;omega
  ·rw[if_neg hb]at h3;omega
theorem lY{ka la kb lb c:Int}(h:rule ka la kb lb=c)(h0:c≠0):
  (c=1→ka=2∧kb=3)∧(c=2→ka=4∧kb=4)∧(c=3→ka=4)∧(c=4→ka=5)∧(c=5→ka=6∧(kb=7∨kb=8))∧(c=6→(ka=6∧kb=11)∨(ka=9∧kb=10))∧(c=7→ka=12∧(kb=3∨kb=7∨kb=8∨kb=10∨kb=11)):=by
 unfold rule at h;split at h
 ·subst h;simp_all
 split at h
 ·split at h
  ·rename_i h1;simp only[Bool.and_eq_true,beq_iff_eq]at h1;subst h;simp_all
  ·split at h
   ·subst h;simp_all
   ·omega
 split at h
 ·split at h
  ·rename_i h1;simp only[Bool.and_eq_true,beq_iff_eq]at h1;subst h;simp_all
  ·omega
 split at h
 ·split at h
  ·rename_i h1;simp only[Bool.or_eq_true,beq_iff_eq]at h1;subst h;simp_all
  ·split at h
   ·rename_i h1;simp only[beq_iff_eq]at h1;subst h;simp_all
   ·omega
 split at h
 ·split at h
  ·rename_i h1;simp only[beq_iff_eq]at h1;subst h;simp_all
  ·omega
 split at h
 ·split at h
  ·rename_i h1;unfold NM at h1;simp only[Bool.or_eq_true,beq_iff_eq]at h1;subst h;refine⟨by simp,by simp,by simp,by simp,by simp,by simp,fun _=>⟨by assumption,by omega⟩⟩
  ·omega
 ·omega
def sig(a:ah):Int×Int×Int×List Int×Nat:=(a.1,a.2.1,a.2.2.1,a.2.2.2.1,a.2.2.2.2.length)
theorem yJ{a b:ah}(h:sig a=sig b):Wf a↔Wf b:=by
 unfold sig at h;simp only[Prod.mk.injEq]at h;obtain⟨h1,h2,h3,h4,h5⟩:=h
 have e:bJ (gA a)=bJ (gA b):=by
  unfold bJ fieldsOf bg gA;simp only[List.length_map,h1,h2,h3,h4,h5]
 unfold Wf;rw[e]
def dh(xs ys:List ah):Prop:=xs.length=ys.length∧∀i:Int,0≤i→i<(xs.length:Nat)→sig (ak xs i)=sig (ak ys i)
theorem dh.refl(xs:List ah):dh xs xs:=⟨rfl,fun _ _ _=>rfl⟩
theorem dh.setPort{xs ys:List ah}(h:dh xs ys)(p q:aC):dh (aG xs p q) ys:=by
 refine⟨by rw[dF];exact h.1,fun i h0 h1=> ?_⟩;rw[dF]at h1;rw[←h.2 i h0 h1,cK];split
 ·rename_i e;rw[rV (xs:=xs) e.1];unfold sig;simp only[List.length_set,ah.aQ]
 ·rfl
theorem dh.link{xs ys:List ah}(h:dh xs ys)(p q:aC):dh (aT xs p q) ys:=(h.setPort p q).setPort q p
theorem dh.move{xs ys:List ah}(h:dh xs ys)(p q:aC):dh (eD xs p q) ys:=h.link _ _
theorem dh.join{xs ys:List ah}(h:dh xs ys)(p q:aC):dh (eU xs p q) ys:=by
 unfold eU;cases ((aB xs p).1==q.1&&(aB xs p).2==q.2)with
 |true=>exact h
 |false=>exact h.link _ _
theorem dh.app{xs ys:List ah}(h:dh xs ys)(zs:List ah):dh (xs++zs) (ys++zs):=by
 refine⟨by rw[List.length_append,List.length_append,h.1],fun i h0 h1=> ?_⟩;rw[List.length_append]at h1
 by_cases hl:i<(xs.length:Nat)
 ·rw[dI (by omega),dI (by rw[←h.1];omega)];exact h.2 i h0 hl
 ·have:∀ws:List ah,ws.length=xs.length→ak (ws++zs) i=zs.getD (i.toNat-xs.length) (dflt aL):=fun ws hw=>by
   unfold ak elt;rw[List.getD_eq_getElem?_getD,List.getElem?_append_right (by omega),hw,List.getD_eq_getElem?_getD]
  rw[this xs rfl,this ys h.1.symm]
theorem FZ(y:Int)(xs:List ah):∀k,dh (vS y xs k) (xs++List.replicate k (bH 5 0 0 [] 1))
 |0=>by rw[List.replicate_zero,List.append_nil];exact dh.refl _
 |k+1=>by
  unfold vS;rw[List.replicate_succ',←List.append_assoc];exact((FZ y xs k).app _).move _ _
theorem Co(lab c d:Int)(P:List ah):∀k,dh (bM lab c d P k) (P++List.replicate k (bH 4 lab 0 [] 3))
 |0=>by rw[List.replicate_zero,List.append_nil];exact dh.refl _
 |k+1=>by
  unfold bM qo;rw[List.replicate_succ',←List.append_assoc];exact(((Co lab c d P k).app _).link _ _).link _ _
theorem zH{y:Int}{b:Nat}{P Q:List ah}(h:dh P Q):∀k,dh (je y b P k) Q
 |0=>h
 |k+1=>(zH h k).move _ _
theorem PX:Wf (bH 5 0 0 [] 1):=by unfold Wf;decide
theorem Hy{k l:Int}(h:dH k l=true):l=0∨(0≤l∧l≤8):=by
 unfold dH at h;simp only[Bool.and_eq_true,Bool.or_eq_true,beq_iff_eq]at h;rcases h.2 with h|h
 ·exact .inl h
 ·exact .inr (lg h.2)
theorem rY{k l:Int}(hk:k=3∨k=4∨k=8∨k=12)(h:l=0∨(0≤l∧l≤8)):dH k l=true:=by
 have h1:dz k=true:=oW (by omega) (by omega)
 have h2:bn k=true:=by
  unfold bn;rw[h1];rcases hk with rfl|rfl|rfl|rfl<;>decide
 unfold dH;rw[h1,h2];rcases h with rfl|h
 ·rfl
 ·rw[show uJ l=true from oW h.1 h.2];simp
theorem DT{k lv v:Int}{d:List Int}{n:Nat}(h1:dH k lv=true)(h2:bg (gA (bH k lv v d n))=true)(h3:(n:Int)=aV k (bG k n))(h4:0<n):Wf (bH k lv v d n):=by
 unfold Wf bJ;have e:((gA (bH k lv v d n)).aQ.length:Int)=(n:Int):=by simp[gA,bH]
 have e2:fieldsOf (gA (bH k lv v d n))=bG k n:=by unfold fieldsOf;rw[e];rfl
 rw[e2,e];show(decide (0<aV k (bG k n))&&(n:Int)==aV k (bG k n)&&dH k lv&&bg (gA (bH k lv v d n)))=true;rw[←h3,h1,h2];simp only[beq_self_eq_true,Bool.and_true,decide_eq_true_eq];omega
theorem PY{lv:Int}(h:lv=0∨(0≤lv∧lv≤8)):Wf (bH 4 lv 0 [] 3):=DT (rY (by omega) h) rfl rfl (by decide)
theorem PW{lv:Int}(h:lv=0∨(0≤lv∧lv≤8)):Wf (bH 3 lv 0 [] 3):=DT (rY (by omega) h) rfl rfl (by decide)
theorem LC{lv v:Int}(h:lv=0∨(0≤lv∧lv≤8))(hv:gU v=true):Wf (bH 12 lv v [] 1):=DT (rY (by omega) h) (by show((((0:Nat):Int)==0)&&gU v)=true;rw[hv];rfl) rfl (by decide)
theorem PZ{v:Int}(hv:kK v=true):Wf (bH 6 0 v [] 1):=DT (by decide) (by show((((0:Nat):Int)==0)&&kK v)=true;rw[hv];rfl) rfl (by decide)
theorem P5{lv v w:Int}(h:lv=0∨(0≤lv∧lv≤8))(hv:iI v=true)(hw:kK w=true):Wf (bH 8 lv v [w] 2):=DT (rY (by omega) h) (by show(((((1:Nat):Int)==1)&&iI v)&&kK (eT [w] 0))=true;rw[hv,show eT [w] 0=w from rfl,hw];rfl) rfl (by decide)
theorem Hf{a:ah}(h:Wf a):Wf (bH a.1 a.2.1 a.2.2.1 a.2.2.2.1 a.2.2.2.2.length):=(yJ (by unfold sig bH;simp)).2 h
theorem BG{a:ah}(h:Wf a):a.2.1=0∨(0≤a.2.1∧a.2.1≤8):=Hy (dZ h).1
theorem LA{a:ah}(h:Wf a)(k:a.1=6):kK a.2.2.1=true:=by
 have:=(dZ h).2.1;unfold bg gA at this;simp only[k,beq_self_eq_true,if_true,Bool.and_eq_true]at this;exact this.2
theorem Nv{a:ah}(h:Wf a)(k:a.1=7):iI a.2.2.1=true:=by
 have:=(dZ h).2.1;unfold bg gA at this;simp only[k]at this;simp at this;exact this.2
theorem LB{a:ah}(h:Wf a)(k:a.1=8):a.2.2.2.1.length=1∧iI a.2.2.1=true∧kK (eT a.2.2.2.1 0)=true:=by
 have:=(dZ h).2.1;unfold bg gA at this;simp only[k]at this;simp at this;exact⟨by omega,this.1.2,this.2⟩
theorem FQ{l:List Int}(h:iG l=true){i:Int}(h0:0≤i)(h1:i<(l.length:Nat)):gU (qG l i)=true:=by
 unfold iG dK at h;rw[List.all_eq_true]at h;have:=h i.toNat (List.mem_range.2 (by omega));exact this
theorem Lx{a:ah}(h:Wf a)(k:a.1=10):1≤a.2.2.2.1.length∧a.2.2.2.1.length≤4∧iG a.2.2.2.1=true:=by
 have:=(dZ h).2.1;unfold bg gA at this;simp only[k]at this;simp at this;have h2:=lg this.1.2;exact⟨by omega,by omega,this.2⟩
theorem yK{a:ah}(h:Wf a)(k:a.1=11):a.2.2.2.1.length=2∧iG a.2.2.2.1=true:=by
 have:=(dZ h).2.1;unfold bg gA at this;simp only[k]at this;simp at this;exact⟨by omega,this.2⟩
theorem yI{a:ah}(h:Wf a)(k:a.1=12):0≤a.2.2.1∧a.2.2.1≤23:=by
 have:=(dZ h).2.1;unfold bg gA at this;simp only[k]at this;simp at this;exact lg this.2
theorem yH{a:ah}(h:Wf a)(k:a.1=9):0≤a.2.2.1∧a.2.2.1≤3:=by
 have:=(dZ h).2.1;unfold bg gA at this;simp only[k]at this;simp at this;exact lg this.2
theorem wf_data{a:ah}(h:Wf a):a.2.2.2.1.length≤4:=by
 have:=(dZ h).2.1;unfold bg gA at this;dsimp only at this;split at this
 ·simp at this;rw[this.1];decide
 split at this
 ·simp at this;rw[this.1];decide
 split at this
 ·simp at this;omega
 split at this
 ·simp at this;rw[this.1];decide
 split at this
 ·simp at this;rw[this.1];decide
 split at this
 ·simp at this;have:=lg this.1.2;omega
 split at this
 ·simp at this;omega
 ·simp at this;rw[this.2];decide
def LV(D:Int→Prop)(xs:List ah):Prop:=∀i:Int,0≤i→i<(xs.length:Nat)→¬D i→Wf (ak xs i)
theorem LV.grow{D E:Int→Prop}{xs xs' zs:List ah}(h:LV D xs)(hs:dh xs' (xs++zs))(hz:∀z∈zs,Wf z)(hE:∀i,D i→E i):LV E xs':=fun i h0 h1 hi=>by
 rw[yJ (hs.2 i h0 h1)]
 by_cases hl:i<(xs.length:Nat)
 ·rw[dI (by omega)];exact h i h0 hl fun k=>hi (hE i k)
 ·have hln:=hs.1;rw[List.length_append]at hln;have hlt:i.toNat-xs.length<zs.length:=by omega
  have e:ak (xs++zs) i=zs[i.toNat-xs.length]:=by
   unfold ak elt;rw[List.getD_eq_getElem?_getD,List.getElem?_append_right (by omega),List.getElem?_eq_getElem hlt];rfl
  rw[e];exact hz _ (List.getElem_mem hlt)
structure BkW(bk:List (List ah)):Prop where
 wi:∀v:Int,0≤v→v<(bk.length:Nat)→dX (fun p=>aj (gZ bk v) p) (gZ bk v)
 r0:∀v:Int,0≤v→v<(bk.length:Nat)→aj (gZ bk v) (0,0)
 r1:∀v:Int,0≤v→v<(bk.length:Nat)→∀p,aj (gZ bk v) p→p.1=0→p=(0,0)
 wf:∀v:Int,0≤v→v<(bk.length:Nat)→∀i:Int,0≤i→i<((gZ bk v).length:Nat)→Wf (ak (gZ bk v) i)
def vH(bk:List (List ah))(xs:List ah)(c x y:Int):List ah:=
 bif c==3 then[oQ xs y]++[oQ xs y]++List.replicate ((ak xs y).2.2.2.2.length-1) (bH 4 (ak xs x).2.1 0 [] 3)
 else bif c==4 then List.replicate ((ak xs y).2.2.2.2.length-1) (bH 5 0 0 [] 1)
 else bif c==5 then(bif (ak xs y).1==7 then[bH 8 (ak xs y).2.1 (ak xs y).2.2.1 [(ak xs x).2.2.1] 2]else[bH 6 0 (Ob (ak xs y).2.2.1 (qG (ak xs y).2.2.2.1 0) (ak xs x).2.2.1) [] 1])
 else bif c==6 then(bif (ak xs x).1==6 then[bH 12 (ak xs y).2.1 (qG (ak xs y).2.2.2.1 (bif (ak xs x).2.2.1==0 then 1 else 0)) [] 1]
  else[bH 12 (ak xs y).2.1 (qG (ak xs y).2.2.2.1 (ak xs x).2.2.1) [] 1]++List.replicate ((ak xs x).2.2.2.2.length-1) (bH 3 (ak xs y).2.1 0 [] 3))
 else bif c==7 then((qO bk xs x).drop 1).map (fO ((xs.length:Nat)-1))else[]
section
variable {D:Int→Prop}{xs ys:List ah}{x y:Int}{bk:List (List ah)}
theorem FD{x:Int}{b:Nat}{P Q:List ah}(h:dh P Q):∀k,dh (Ca x b P k) Q
 |0=>h
 |k+1=>(FD h k).move _ _
theorem FJ(lv:Int)(b:Nat)(P:List ah):∀k,dh (qE lv b P k) (P++List.replicate k (bH 3 lv 0 [] 3))
 |0=>by rw[List.replicate_zero,List.append_nil];exact dh.refl _
 |k+1=>by
  unfold qE;rw[List.replicate_succ',←List.append_assoc];exact((FJ lv b P k).app _).link _ _
theorem zC{c:Int}(hc:1≤c∧c≤7)(hx:x.toNat<xs.length):dh (mO bk xs c x y) (xs++vH bk xs c x y):=by
 have hcs:c=1∨c=2∨c=3∨c=4∨c=5∨c=6∨c=7:=by omega
 rcases hcs with rfl|rfl|rfl|rfl|rfl|rfl|rfl
 ·show dh (eU (eU xs (x,1) (y,1)) (x,2) (y,2)) (xs++[]);rw[List.append_nil];exact((dh.refl xs).join _ _).join _ _
 ·show dh (eU (eU xs (x,1) (y,1)) (x,2) (y,2)) (xs++[]);rw[List.append_nil];exact((dh.refl xs).join _ _).join _ _
 ·show dh (iO xs x y) (xs++([oQ xs y]++[oQ xs y]++List.replicate ((ak xs y).2.2.2.2.length-1) (bH 4 (ak xs x).2.1 0 [] 3)));unfold iO Mg dup3
  have e:(ak (dup2 xs y) x).2.1=(ak xs x).2.1:=by
   unfold dup2;rw[dI (by rw[List.length_append];omega),dI hx]
  rw[←(kI (x:=x) (by rw[ng];omega) _).1,e];refine zH ((dh.move ?_ _ _).move _ _) _;rw[←List.append_assoc,←List.append_assoc];exact Co _ _ _ _ _
 ·exact FZ y xs _
 ·show dh (iP xs x y) (xs++(bif (ak xs y).1==7 then[bH 8 (ak xs y).2.1 (ak xs y).2.2.1 [(ak xs x).2.2.1] 2]else[bH 6 0 (Ob (ak xs y).2.2.1 (qG (ak xs y).2.2.2.1 0) (ak xs x).2.2.1) [] 1]));unfold iP;cases (ak xs y).1==7 with
  |true=>exact(((dh.refl xs).app _).move _ _).move _ _
  |false=>exact((dh.refl xs).app _).move _ _
 ·show dh (nS xs x y) (xs++(bif (ak xs x).1==6 then[bH 12 (ak xs y).2.1 (qG (ak xs y).2.2.2.1 (bif (ak xs x).2.2.1==0 then 1 else 0)) [] 1]
   else[bH 12 (ak xs y).2.1 (qG (ak xs y).2.2.2.1 (ak xs x).2.2.1) [] 1]++List.replicate ((ak xs x).2.2.2.2.length-1) (bH 3 (ak xs y).2.1 0 [] 3)))
  unfold nS;cases (ak xs x).1==6 with
  |true=>exact((dh.refl xs).app _).move _ _
  |false=>
   simp only[cond_false];rw[←List.append_assoc];exact(FD (FJ _ _ _ _) _).move _ _
 ·exact((dh.refl xs).app _).link _ _
theorem Ke{c:Int}(h:St D xs ys)(k:kH D xs x y)(hD:∀i,D i→i<(xs.length:Nat))(hw:LV D xs)(hr:rule (ak xs x).1 (ak xs x).2.1 (ak xs y).1 (ak xs y).2.1=c)(hc:1≤c∧c≤7)(hb:BkW bk)(h7:c=7→(ak xs x).2.2.1<(bk.length:Nat)):
  St (fun i=>D i∨i∈kZ c x y) (mO bk xs c x y) (JC bk ys c x y):=by
 have wx:=hw x k.px.1 k.px.2.1 k.lx;have wy:=hw y k.py.1 k.py.2.1 k.ly;obtain⟨x1,x2,x3,x4⟩:=p8 wx;obtain⟨y1,y2,y3,y4⟩:=p8 wy;obtain⟨r1,r2,r3,r4,r5,r6,r7⟩:=lY hr (by omega)
 have mono:∀{E:Int→Prop} {A B:List ah},(∀i,E i↔D i∨i=x∨i=y)→St (fun i=>D i∨i=x∨i=y) A B→St E A B:=fun {E A B} e s=>by
  have:E=fun i=>D i∨i=x∨i=y:=funext fun i=>propext (e i)
  rw[this];exact s
 have g2:c≠7→∀i,(D i∨i∈kZ c x y)↔D i∨i=x∨i=y:=fun hne i=>by
  unfold kZ;rw[show(c==7)=false by simpa using hne];simp
 have hcs:c=1∨c=2∨c=3∨c=4∨c=5∨c=6∨c=7:=by omega
 rcases hcs with rfl|rfl|rfl|rfl|rfl|rfl|rfl
 ·obtain⟨a,b⟩:=r1 rfl;exact mono (g2 (by decide)) (h.joins k (x3 (by omega)) (y3 (by omega)))
 ·obtain⟨a,b⟩:=r2 rfl;exact mono (g2 (by decide)) (h.joins k (x3 (by omega)) (y3 (by omega)))
 ·exact mono (g2 (by decide)) (h.duplicate k hD (x3 (by have:=r3 rfl;omega)) (dZ wy).2.2.2)
 ·exact mono (g2 (by decide)) (h.erase k hD (x1 (by have:=r4 rfl;omega)))
 ·obtain⟨a,b⟩:=r5 rfl;exact mono (g2 (by decide)) (h.operate k hD (x1 (by omega)) (fun e=>y3 (by omega)) (fun e=>y2 (by omega)))
 ·have q:=r6 rfl;exact mono (g2 (by decide)) (h.choose k hD (by omega) (fun e=>x1 (by omega)) (dZ wx).2.2.2 (y2 (by omega)))
 ·obtain⟨a,b⟩:=r7 rfl;have v:=yI wx a;have e:(fun i=>D i∨i∈kZ 7 x y)=fun i=>D i∨i=x:=funext fun i=>propext (by unfold kZ;simp)
  rw[e];exact h.expand k hD (x1 (by omega)) (hb.wi _ v.1 (h7 rfl)) (hb.r0 _ v.1 (h7 rfl)) (hb.r1 _ v.1 (h7 rfl))
end
end Go.Tr
namespace Go.Tr
open Go Go.RowKit
theorem tQ(x:Int):kK (lF x)=true:=by
 have h: -2147483648≤IntKind.i32.wrap x∧IntKind.i32.wrap x≤2147483647:=by
  simp only[IntKind.wrap,IntKind.bits,IntKind.signed];simp;omega
 unfold lF;rw[IntWalk.i64_in _ (by omega)];exact oW h.1 h.2
theorem MR(o a b:Int):kK (Ob o a b)=true:=by
 unfold Ob;cases o==1 with
 |true=>exact tQ _
 |false=>
 cases o==2 with
 |true=>exact tQ _
 |false=>
 cases o==3 with
 |true=>exact tQ _
 |false=>
 cases o==4 with
 |true=>
  cases lF b==0 with
  |true=>rfl
  |false=>exact tQ _
 |false=>
 cases o==5 with
 |true=>cases decide (lF a<lF b)<;>rfl
 |false=>
 cases o==6 with
 |true=>cases lF a==lF b<;>rfl
 |false=>rfl
theorem LD{lv:Int}{a:ah}(h:Wf a)(h0:0≤lv)(h8:(!(bn a.kind)||decide (a.level+lv≤8))=true):Wf (pQ lv a):=by
 unfold pQ;cases hl:bn a.kind with
 |false=>exact h
 |true=>
  have h9:a.2.1+lv≤8:=by
   rw[show ah.kind a=a.1 from rfl]at*;rw[hl]at h8;simpa using h8
  have hp:=dZ h;have hlev:=BG h;unfold Wf bJ at h ⊢;simp only[Bool.and_eq_true]at h ⊢;obtain⟨⟨⟨q1,q2⟩,q3⟩,q4⟩:=h;refine⟨⟨⟨q1,q2⟩,?_⟩,q4⟩;show dH a.1 (a.2.1+lv)=true;have q5:dH a.1 a.2.1=true:=q3;unfold dH at q5 ⊢;simp only[Bool.and_eq_true,Bool.or_eq_true]at q5 ⊢;exact⟨q5.1,.inr ⟨hl,oW (by omega) h9⟩⟩
theorem IE(b:Int)(a:ah):sig (fO b a)=sig a:=by unfold sig fO;simp
section
variable {D:Int→Prop}{xs:List ah}{x y:Int}{bk:List (List ah)}
theorem Ii{c:Int}(hw:LV D xs)(hx:0≤x∧x<(xs.length:Nat))(hy:0≤y∧y<(xs.length:Nat))(lx:¬D x)(ly:¬D y)(hr:rule (ak xs x).1 (ak xs x).2.1 (ak xs y).1 (ak xs y).2.1=c)(hc:1≤c∧c≤7)(hb:BkW bk)
  (h6:c=6→(ak xs x).1=9→(ak xs x).2.2.1<((ak xs y).2.2.2.1.length:Nat)) (h7:c=7→(ak xs x).2.2.1<(bk.length:Nat)∧wK (ak xs x).2.1 (gZ bk (ak xs x).2.2.1)=true):LV D (mO bk xs c x y):=by
 have wx:=hw x hx.1 hx.2 lx;have wy:=hw y hy.1 hy.2 ly;have lvx:=BG wx;have lvy:=BG wy;obtain⟨r1,r2,r3,r4,r5,r6,r7⟩:=lY hr (by omega);refine hw.grow (zC hc (by omega)) ?_ fun i e=>e
 have hcs:c=1∨c=2∨c=3∨c=4∨c=5∨c=6∨c=7:=by omega
 rcases hcs with rfl|rfl|rfl|rfl|rfl|rfl|rfl
 ·intro z hz;cases hz
 ·intro z hz;cases hz
 ·intro z hz;have hz':z∈[oQ xs y]++[oQ xs y]++List.replicate ((ak xs y).2.2.2.2.length-1) (bH 4 (ak xs x).2.1 0 [] 3):=hz;rw[List.mem_append,List.mem_append,List.mem_singleton]at hz';rcases hz' with(e|e)|e
  ·rw[e];exact Hf wy
  ·rw[e];exact Hf wy
  ·rw[List.eq_of_mem_replicate e];exact PY lvx
 ·intro z hz;have hz':z∈List.replicate ((ak xs y).2.2.2.2.length-1) (bH 5 0 0 [] 1):=hz;rw[List.eq_of_mem_replicate hz'];exact PX
 ·obtain⟨a,b⟩:=r5 rfl;intro z hz;have hz':z∈(bif (ak xs y).1==7 then[bH 8 (ak xs y).2.1 (ak xs y).2.2.1 [(ak xs x).2.2.1] 2]else[bH 6 0 (Ob (ak xs y).2.2.1 (qG (ak xs y).2.2.2.1 0) (ak xs x).2.2.1) [] 1]):=hz;cases hk:(ak xs y).1==7 with
  |true=>
   rw[hk,cond_true,List.mem_singleton]at hz';rw[hz'];exact P5 lvy (Nv wy (by simpa using hk)) (LA wx a)
  |false=>
   rw[hk,cond_false,List.mem_singleton]at hz';rw[hz'];exact PZ (MR _ _ _)
 ·have q:=r6 rfl;intro z hz
  have hz':z∈(bif (ak xs x).1==6 then[bH 12 (ak xs y).2.1 (qG (ak xs y).2.2.2.1 (bif (ak xs x).2.2.1==0 then 1 else 0)) [] 1]
   else[bH 12 (ak xs y).2.1 (qG (ak xs y).2.2.2.1 (ak xs x).2.2.1) [] 1]++List.replicate ((ak xs x).2.2.2.2.length-1) (bH 3 (ak xs y).2.1 0 [] 3)):=hz
  rcases q with⟨a,b⟩|⟨a,b⟩
  ·rw[show((ak xs x).1==6)=true by simpa using a,cond_true,List.mem_singleton]at hz';obtain⟨l2,d⟩:=yK wy b;rw[hz'];refine LC lvy (FQ d ?_ ?_)
   ·cases (ak xs x).2.2.1==0<;>decide
   ·rw[l2];cases (ak xs x).2.2.1==0<;>decide
  ·rw[show((ak xs x).1==6)=false by simp[a],cond_false,List.mem_append,List.mem_singleton]at hz';obtain⟨_,_,d⟩:=Lx wy b;rcases hz' with e|e
   ·rw[e];exact LC lvy (FQ d (yH wx a).1 (h6 rfl a))
   ·rw[List.eq_of_mem_replicate e];exact PW lvy
 ·obtain⟨a,b⟩:=r7 rfl;obtain⟨v1,v2⟩:=h7 rfl;intro z hz;have hz':z∈((qO bk xs x).drop 1).map (fO ((xs.length:Nat)-1)):=hz;obtain⟨w,hw1,rfl⟩:=List.mem_map.1 hz';rw[yJ (IE _ w)];have hw2:=List.mem_of_mem_drop hw1;unfold qO fQ at hw2;obtain⟨u,hu,rfl⟩:=List.mem_map.1 hw2;obtain⟨i,hi,rfl⟩:=List.mem_iff_getElem.1 hu;have hv:=yI wx a;have wu:=hb.wf _ hv.1 v1 (i:Nat) (by omega) (by omega)
  have e:ak (gZ bk (ak xs x).2.2.1) (i:Nat)=(gZ bk (ak xs x).2.2.1)[i]:=by
   generalize gZ bk (ak xs x).2.2.1=t at*;unfold ak elt;rw[Int.toNat_natCast,List.getD_eq_getElem?_getD,List.getElem?_eq_getElem hi];rfl
  rw[e]at wu;refine LD wu (by omega) ?_;unfold wK at v2;exact List.all_eq_true.1 v2 _ hu
theorem Kg{c:Int}(hw:LV D xs)(hx:0≤x∧x<(xs.length:Nat))(hy:0≤y∧y<(xs.length:Nat))(lx:¬D x)(ly:¬D y)(hr:rule (ak xs x).1 (ak xs x).2.1 (ak xs y).1 (ak xs y).2.1=c)(hc:1≤c∧c≤7)(hb:BkW bk)
  (h6:c=6→(ak xs x).1=9→(ak xs x).2.2.1<((ak xs y).2.2.2.1.length:Nat)) (h7:c=7→(ak xs x).2.2.1<(bk.length:Nat)∧wK (ak xs x).2.1 (gZ bk (ak xs x).2.2.1)=true):LV (fun i=>D i∨i∈kZ c x y) (mO bk xs c x y):=fun i h0 h1 hi=>Ii hw hx hy lx ly hr hc hb h6 h7 i h0 h1 fun e=>hi (.inl e)
end
end Go.Tr
namespace Go.Tr
open Go Go.RowKit
section
variable {D:Int→Prop}{xs ys:List ah}{x y a b:Int}{bk:List (List ah)}
end
end Go.Tr
namespace Go.Tr
open Go Go.RowKit
section
variable {xs:List ah}{a b:Int}{bk:List (List ah)}
theorem Jm{t:List ah}{i:Nat}(hi:i<t.length):ak t (i:Nat)=t[i]:=by
 unfold ak elt;rw[Int.toNat_natCast,List.getD_eq_getElem?_getD,List.getElem?_eq_getElem hi];rfl
end
end Go.Tr
namespace Go.Tr
open Go Go.RowKit
def hasB(xs:List ah)(k:Int):Bool:=bif decide (0≤k)then decide (k<(xs.length:Nat))else false
theorem uI(kv:List (Int×Bool))(i j:Int):gG false (fZ kv i true) j=if i=j then true else gG false kv j:=by
 induction kv with
 |nil=>
  simp only[fZ,gG]
  by_cases h:i=j
  ·rw[if_pos h,show(i==j)=true by simpa using h];rfl
  ·rw[if_neg h,show(i==j)=false by simpa using h];rfl
 |cons e l ih=>
  obtain⟨k,v⟩:=e;simp only[fZ];cases h:k==i with
  |true=>
   have h1:k=i:=by simpa using h
   subst h1;simp only[cond_true,gG]
   by_cases h2:k=j
   ·rw[if_pos h2,show(k==j)=true by simpa using h2];rfl
   ·rw[if_neg h2,show(k==j)=false by simpa using h2];rfl
  |false=>
   have h1:k≠i:=by simpa using h
   simp only[cond_false,gG,ih]
   by_cases h2:k=j
   ·subst h2;rw[if_neg (Ne.symm h1),if_neg (Ne.symm h1)]
   ·rw[show(k==j)=false by simpa using h2];rfl
theorem zF{kv:List (Int×Bool)}(hT:∀e∈kv,e.2=true){i:Int}(h:gG false kv i=false):(fZ kv i true).length=kv.length+1:=by
 induction kv with
 |nil=>rfl
 |cons e l ih=>
  obtain⟨k,v⟩:=e;simp only[gG]at h;simp only[fZ];cases hk:k==i with
  |true=>
   rw[hk,cond_true]at h;have:=hT (k,v) (List.mem_cons_self ..);rw[h]at this;cases this
  |false=>
   rw[hk,cond_false]at h;simp only[cond_false,List.length_cons];rw[ih (fun e he=>hT e (List.mem_cons_of_mem _ he)) h]
theorem Gg{kv:List (Int×Bool)}(hT:∀e∈kv,e.2=true)(i:Int):∀e∈fZ kv i true,e.2=true:=by
 induction kv with
 |nil=>
  intro e he;simp only[fZ,List.mem_singleton]at he;rw[he]
 |cons e l ih=>
  obtain⟨k,v⟩:=e;simp only[fZ];cases hk:k==i with
  |true=>
   intro e he;simp only[cond_true,List.mem_cons]at he;rcases he with rfl|he
   ·rfl
   ·exact hT e (List.mem_cons_of_mem _ he)
  |false=>
   intro e he;simp only[cond_false,List.mem_cons]at he;rcases he with rfl|he
   ·exact hT _ (List.mem_cons_self ..)
   ·exact ih (fun e he=>hT e (List.mem_cons_of_mem _ he)) e he
def kX(kv:List (Int×Bool)):Nat→Nat
 |0=>0
 |k+1=>bif gG false kv (k:Nat)then kX kv k+1 else kX kv k
theorem uj{kv:List (Int×Bool)}{x:Int}(h0:0≤x)(h:gG false kv x=false):∀n:Nat,kX (fZ kv x true) n=kX kv n+(if x<(n:Nat)then 1 else 0)
 |0=>by rw[if_neg (by omega)];rfl
 |n+1=>by
  unfold kX;rw[uI,uj h0 h n]
  by_cases e:x=(n:Nat)
  ·subst e;rw[if_pos rfl,cond_true,h,cond_false,if_neg (by omega),if_pos (by omega)]
  ·rw[if_neg e]
   by_cases hl:x<(n:Nat)
   ·rw[if_pos hl,if_pos (by omega)];cases gG false kv (n:Nat)<;>simp only[cond_true,cond_false]<;>omega
   ·rw[if_neg hl,if_neg (by omega)];cases gG false kv (n:Nat)<;>simp only[cond_true,cond_false]<;>omega
theorem zh{kv:List (Int×Bool)}{n:Nat}(h:∀i:Int,(n:Int)≤i→gG false kv i=false):∀m:Nat,kX kv (n+m)=kX kv n
 |0=>rfl
 |m+1=>by
  show kX kv ((n+m)+1)=_;unfold kX;rw[h ((n+m:Nat):Int) (by omega),cond_false];have:=zh h m;rw[this];cases n<;>rfl
section
variable {P:List ah→Prop}(hl:∀xs p q,P xs→P (aT xs p q))(ha:∀xs zs,P xs→P (xs++zs))
include hl
theorem iB{xs:List ah}{p q:aC}(h:P xs):P (eD xs p q):=hl _ _ _ h
theorem qy{xs:List ah}{p q:aC}(h:P xs):P (eU xs p q):=by
 unfold eU;cases ((aB xs p).1==q.1&&(aB xs p).2==q.2)with
 |true=>exact h
 |false=>exact hl _ _ _ h
theorem qN{y:Int}{b:Nat}{xs:List ah}(h:P xs):∀k,P (je y b xs k)
 |0=>h
 |k+1=>iB hl (qN h k)
include ha
theorem sS{x c d:Int}{xs:List ah}(h:P xs):∀k,P (fV x c d xs k)
 |0=>h
 |k+1=>hl _ _ _ (hl _ _ _ (ha _ _ (sS h k)))
theorem CO{y:Int}{xs:List ah}(h:P xs):∀k,P (vS y xs k)
 |0=>h
 |k+1=>iB hl (ha _ _ (CO h k))
theorem CK{lv x:Int}{b:Nat}{xs:List ah}(h:P xs):∀k,P (vR lv x b xs k)
 |0=>h
 |k+1=>iB hl (hl _ _ _ (ha _ _ (CK h k)))
theorem xE{bk:List (List ah)}{xs:List ah}{c x y:Int}(h:P xs):P (o7 bk xs c x y):=by
 unfold o7;cases c==1
 ·cases c==2
  ·cases c==3
   ·cases c==4
    ·cases c==5
     ·cases c==6
      ·cases c==7
       ·exact h
       ·exact hl _ _ _ (ha _ _ h)
      ·show P (sD xs x y);unfold sD;cases (ak xs y).1==11
       ·exact iB hl (CK hl ha (ha _ _ h) _)
       ·exact iB hl (ha _ _ h)
     ·show P (iP xs x y);unfold iP;cases (ak xs y).1==7
      ·exact iB hl (ha _ _ h)
      ·exact iB hl (iB hl (ha _ _ h))
    ·exact CO hl ha h _
   ·exact qN hl (iB hl (iB hl (sS hl ha (ha _ _ (ha _ _ h)) _))) _
  ·exact qy hl (qy hl h)
 ·exact qy hl (qy hl h)
end
def BL(i:Int)(ys:List ah):Prop:=i.toNat<ys.length∧ak ys i=NV
theorem BL.set{i:Int}{ys:List ah}(h:BL i ys)(p q:aC):BL i (aG ys p q):=by
 refine⟨by rw[dF];exact h.1,?_⟩;rw[cK];split
 ·rename_i e;rw[rV e.1,h.2];rfl
 ·exact h.2
theorem BL.inter{i:Int}{ys:List ah}(h:BL i ys)(bk:List (List ah))(c x y:Int):BL i (o7 bk ys c x y):=
 xE (P:=BL i) (fun xs p q h=>(h.set p q).set q p) (fun xs zs h=>⟨by rw[List.length_append];have:=h.1;omega,by rw[dI h.1];exact h.2⟩) h
theorem BL.drop{i:Int}{ys:List ah}(h:BL i ys)(a:Int):BL i (dN ys a):=by
 refine⟨by rw[qX];exact h.1,?_⟩;unfold dN;rw[rW];split
 ·rfl
 ·exact h.2
theorem BL.new{ys:List ah}{a:Int}(h0:0≤a)(h1:a<(ys.length:Nat)):BL a (dN ys a):=by
 refine⟨by rw[qX];omega,?_⟩;unfold dN;rw[rW,if_pos ⟨rfl,by omega⟩]
theorem Ih{xs:List ah}(bk:List (List ah))(c x y:Int):xs.length≤(o7 bk xs c x y).length:=
 xE (P:=fun ws=>xs.length≤ws.length) (fun ws p q h=>by rw[bB];exact h) (fun ws zs h=>by rw[List.length_append];omega) (Nat.le_refl _)
theorem dM.QT{xs:List ah}{p q:aC}(h:∀r,aj xs r→r≠p→r≠q→aj xs (aB xs r))(hp:aj xs p)(hq:aj xs q):dM (aT xs p q):=fun r hr=>by
 have hr':=hr.unlink;rw[gX hp hq hr'];split
 ·exact hp.link
 ·rename_i e1;split
  ·exact hq.link
  ·rename_i e2;exact(h r hr' (Ne.symm e2) (Ne.symm e1)).link
section
variable {xs:List ah}{x y c:Int}{bk:List (List ah)}
theorem MC(hp:IntPre xs c x y)(hA:dM xs)(h0:aj xs (0,0))(hc:1≤c∧c≤7)(hb:BkW bk)(h7:c=7→(0≤(ak xs x).2.2.1∧(ak xs x).2.2.1<(bk.length:Nat))):dM (mO bk xs c x y):=by
 obtain⟨hx0,hy0,p12,p3,px,py,dy,p5,p6⟩:=hp;have hcs:c=1∨c=2∨c=3∨c=4∨c=5∨c=6∨c=7:=by omega
 rcases hcs with rfl|rfl|rfl|rfl|rfl|rfl|rfl
 ·obtain⟨j1,j2,j3,j4⟩:=p12 (.inl rfl);exact(hA.join j1 j3).join j2.join j4.join
 ·obtain⟨j1,j2,j3,j4⟩:=p12 (.inr rfl);exact(hA.join j1 j3).join j2.join j4.join
 ·obtain⟨hx1,hx2⟩:=p3 rfl;show dM (iO xs x y);have h2A:=JD (y:=y) hA h0;have hcd:∀i:Nat,i≤(ak xs y).2.2.2.2.length-1→aj (dup2 xs y) (((xs.length:Nat):Int),(i:Nat))∧aj (dup2 xs y) (((xs.length+1:Nat):Int),(i:Nat)):=fun i hi=>⟨Ec (by omega) (by omega),Ed (by omega) (by omega)⟩
  have h3A:dM (dup3 xs x y):=vv h2A (Ac h0) _ hcd;have h3:∀{p},aj xs p→aj (dup3 xs x y) p:=fun h=>jq (Ac h) _
  have hc0:aj (dup3 xs x y) (((xs.length:Nat):Int),0):=jq (Ec (by decide) (by omega)) _;have hd0:aj (dup3 xs x y) (((xs.length+1:Nat):Int),0):=jq (Ed (by decide) (by omega)) _;have h4A:dM (Mg xs x y):=(h3A.move (h3 hx1) hc0).move (h3 hx2).move hd0.move;refine sG h4A _ fun i hi=>⟨(h3 ⟨hy0.1,hy0.2,by omega,?_⟩).move.move,?_⟩
  ·show((i:Nat):Int)+1<((ak xs y).2.2.2.2.length:Nat);omega
  ·have:=(wY (x:=x) (c:=((xs.length:Nat):Int)) (d:=((xs.length+1:Nat):Int)) (xs:=dup2 xs y) hi).move (p:=(x,1)) (q:=(((xs.length:Nat):Int),0));have:=this.move (p:=(x,2)) (q:=(((xs.length+1:Nat):Int),0));rw[ng]at this;exact this
 ·exact FY hA h0 _ fun i hi=>⟨hy0.1,hy0.2,by omega,by show((i+1:Nat):Int)<((ak xs y).2.2.2.2.length:Nat);omega⟩
 ·obtain⟨j1,j2,j3⟩:=p5 rfl;show dM (iP xs x y);unfold iP;cases hk:(ak xs y).1==7 with
  |true=>
   have k7:=j2 (by simpa using hk);exact((hA.add h0 _ _ _ _ _).move j1.app (aj.new (by decide) (by decide))).move k7.app.move (aj.new (by decide) (by decide)).move
  |false=>exact(hA.add h0 _ _ _ _ _).move j1.app (aj.new (by decide) (by decide))
 ·obtain⟨j1,j2,j3⟩:=p6 rfl;show dM (nS xs x y);unfold nS;cases hk:(ak xs x).1==6 with
  |true=>exact(hA.add h0 _ _ _ _ _).move j1.app (aj.new (by decide) (by decide))
  |false=>
   simp only[cond_false];have h1A:dM (fM xs y (ak xs x).2.2.1):=hA.add h0 _ _ _ _ _;have h1l:(fM xs y (ak xs x).2.2.1).length=xs.length+1:=H6 _ _ _;have h1R:aj (fM xs y (ak xs x).2.2.1) (kW (fM xs y (ak xs x).2.2.1).length 0):=by rw[h1l];exact aj.new (by decide) (by decide)
   have h1:∀{p},aj xs p→aj (fM xs y (ak xs x).2.2.1) p:=fun h=>h.app
   have h2A:=FI (lv:=(ak xs y).2.1) h1A (h1 h0) h1R ((ak xs x).2.2.2.2.length-1);have hR:=FH (lv:=(ak xs y).2.1) h1R ((ak xs x).2.2.2.2.length-1);have h2:∀{p},aj xs p→aj (qE (ak xs y).2.1 (fM xs y (ak xs x).2.2.1).length (fM xs y (ak xs x).2.2.1) ((ak xs x).2.2.2.2.length-1)) p:=fun h=>zZ (h1 h) _
   have hxi:∀i:Nat,i<((ak xs x).2.2.2.2.length-1)→aj (qE (ak xs y).2.1 (fM xs y (ak xs x).2.2.1).length (fM xs y (ak xs x).2.2.1) ((ak xs x).2.2.2.2.length-1)) (x,((i:Nat):Int)+1)∧aj (qE (ak xs y).2.1 (fM xs y (ak xs x).2.2.1).length (fM xs y (ak xs x).2.2.1) ((ak xs x).2.2.2.2.length-1)) ((((fM xs y (ak xs x).2.2.1).length+i:Nat):Int),1):=fun i hi=>
    ⟨h2 ⟨hx0.1,hx0.2,by omega,by show((i:Nat):Int)+1<((ak xs x).2.2.2.2.length:Nat);omega⟩,wz (by decide) (by decide) hi⟩
   rw[h1l]at h2A h2 hxi hR;exact(FB h2A _ hxi).move (mJ (h2 j1) _) (mJ hR _)
 ·obtain⟨v0,v1⟩:=h7 rfl;show dM (sJ bk xs x y);unfold sJ qO;have hw:=hb.wi _ v0 v1;have r0:=hb.r0 _ v0 v1;have r1:=hb.r1 _ v0 v1;generalize gZ bk (ak xs x).2.2.1=t at*;generalize (ak xs x).2.1=lv;generalize hbb:(xs.length:Int)-1=b;have hb':b=(xs.length:Int)-1:=hbb.symm;have hws:dX (fun p=>aj (fQ lv t) p) (fQ lv t):=hw.shift;have r0s:aj (fQ lv t) (0,0):=aj.kC.2 r0;have r1s:∀p,aj (fQ lv t) p→p.1=0→p=(0,0):=fun p hp e=>r1 p (aj.kC.1 hp) e
  generalize fQ lv t=T at*;obtain⟨q1,q2,q3,q4⟩:=hws (0,0) r0s
  have rpos:1≤(aB T (0,0)).1:=by
   have h1:0≤(aB T (0,0)).1:=q2.1
   by_cases e:(aB T (0,0)).1=0
   ·exact absurd (r1s _ q2 e) q4
   ·omega
  have hR:aj (xs++(T.drop 1).map (fO b)) ((aB T (0,0)).1+b,(aB T (0,0)).2):=(aj.jZ hb').2 (.inr ⟨by show(xs.length:Int)≤(aB T (0,0)).1+b;omega,by
   rw[show(((aB T (0,0)).1+b,(aB T (0,0)).2):aC).1-b=(aB T (0,0)).1 by show(aB T (0,0)).1+b-b=_;omega];exact q2⟩)
  have hY:aj xs (y,0):=⟨hy0.1,hy0.2,Int.le_refl 0,by show(0:Int)<((ak xs y).2.2.2.2.length:Nat);omega⟩;refine dM.QT (fun r hr n1 n2=> ?_) hY.app hR;rcases(aj.jZ hb').1 hr with q|⟨q,qt⟩
  ·rw[kg (xJ q)];exact(hA r q).app
  ·rw[pI hb' q qt];obtain⟨s1,s2,s3,s4⟩:=hws _ qt
   by_cases e:(aB T (r.1-b,r.2)).1=0
   ·exfalso;have e2:=r1s _ s2 e;rw[e2]at s3;apply n2;rw[s3];exact bQ (by show r.1=r.1-b+b;omega) rfl
   ·have s20:0≤(aB T (r.1-b,r.2)).1:=s2.1;refine(aj.jZ hb').2 (.inr ⟨by show(xs.length:Int)≤(aB T (r.1-b,r.2)).1+b;omega,?_⟩);rw[show(((aB T (r.1-b,r.2)).1+b,(aB T (r.1-b,r.2)).2):aC).1-b=(aB T (r.1-b,r.2)).1 by show(aB T (r.1-b,r.2)).1+b-b=_;omega];exact s2
end
end Go.Tr
namespace Go.Tr
open Go Go.RowKit
abbrev Gone(kv:List (Int×Bool)):Int→Prop:=fun i=>gG false kv i=true
theorem J2(kv:List (Int×Bool))(ks:List Int)(i:Int):Gone (Dp kv ks) i↔Gone kv i∨i∈ks:=by
 unfold Dp Gone
 induction ks generalizing kv with
 |nil=>simp
 |cons k ks ih=>
  rw[List.foldl_cons,ih,uI,List.mem_cons]
  by_cases h:k=i
  ·rw[if_pos h];simp[h]
  ·rw[if_neg h];constructor
   ·rintro(h1|h1)
    ·exact .inl h1
    ·exact .inr (.inr h1)
   ·rintro(h1|h1|h1)
    ·exact .inl h1
    ·exact absurd h1.symm h
    ·exact .inr h1
theorem Rp{kv:List (Int×Bool)}(hT:∀e∈kv,e.2=true)(ks:List Int):∀e∈Dp kv ks,e.2=true:=by
 unfold Dp
 induction ks generalizing kv with
 |nil=>exact hT
 |cons k ks ih=>rw[List.foldl_cons];exact ih (Gg hT k)
structure RY(bk:List (List ah)):Prop extends BkW bk where
 rt:∀v:Int,0≤v→v<(bk.length:Nat)→∀i:Int,0<i→i<((gZ bk v).length:Nat)→(ak (gZ bk v) i).1≠1
structure Twin(kv:List (Int×Bool))(xs ys:List ah):Prop where
 st:St (Gone kv) xs ys
 wf:LV (Gone kv) xs
 dl:∀i,Gone kv i→0≤i∧i<(xs.length:Nat)
 hole:∀i,Gone kv i→BL i ys
 r1:(ak xs 0).1=1
 r0:¬Gone kv 0
 rl:0<xs.length
 uq:∀i:Int,0<i→i<(xs.length:Nat)→¬Gone kv i→(ak xs i).1≠1
 kt:∀e∈kv,e.2=true
 kl:kv.length=kX kv xs.length
 al:dM xs
section
variable {kv:List (Int×Bool)}{xs ys:List ah}{a b x y c:Int}{bk:List (List ah)}
theorem Twin.len(h:Twin kv xs ys):xs.length=ys.length:=h.st.ag.1
theorem Twin.at_(h:Twin kv xs ys){i:Int}(h0:0≤i)(h1:i<(xs.length:Nat))(hd:¬Gone kv i):ak ys i=ak xs i:=(h.st.ag.2 i h0 h1 hd).symm
theorem Twin.p0(h:Twin kv xs ys):aj xs (0,0):=by
 have w:=h.wf 0 (Int.le_refl 0) (by have:=h.rl;omega) h.r0;have:=(dZ w).2.2.2;exact⟨Int.le_refl 0,by have:=h.rl;show(0:Int)<_;omega,Int.le_refl 0,by show(0:Int)<((ak xs 0).2.2.2.2.length:Nat);omega⟩
theorem kH.symm{D:Int→Prop}(k:kH D xs a b)(h:St D xs ys):kH D xs b a:=by
 obtain⟨_,_,h3,_⟩:=h.wi (a,0) ⟨k.px,k.lx⟩;rw[k.w]at h3;exact⟨k.ne.symm,k.ly,k.lx,k.py,k.px,h3⟩
theorem kH.first{D:Int→Prop}(k:kH D xs a b)(h:St D xs ys):kH D xs (Ei xs a b).1 (Ei xs a b).2:=by
 unfold Ei;cases zK (ak xs a).1 (ak xs a).2.1 (ak xs b).1 (ak xs b).2.1==2
 ·exact k
 ·exact k.symm h
theorem nL{u:ah}(w:Wf u):0<u.2.2.2.2.length∧u.2.2.2.2.length≤4:=by
 have k:=Nu w;obtain⟨x1,x2,x3,x4⟩:=p8 w;refine⟨(dZ w).2.2.2,?_⟩
 by_cases h9:u.1=9
 ·exact(x4 h9).2
 ·by_cases h1:u.1=1∨u.1=5∨u.1=6∨u.1=12
  ·rw[x1 h1];decide
  ·by_cases h2:u.1=8∨u.1=10∨u.1=11
   ·rw[x2 h2];decide
   ·rw[x3 (by omega)];decide
theorem Gd(wx:Wf (ak xs x))(wy:Wf (ak xs y))(hx:0≤x∧x<(xs.length:Nat))(hy:0≤y∧y<(xs.length:Nat))(hr:rule (ak xs x).1 (ak xs x).2.1 (ak xs y).1 (ak xs y).2.1=c)(hc:1≤c∧c≤7)
  (h6:(ak xs x).1=9→(ak xs y).1=10→(ak xs x).2.2.1<((ak xs y).2.2.2.1.length:Nat)):LU xs c x y:=by
 obtain⟨r1,r2,r3,r4,r5,r6,r7⟩:=lY hr (by omega);obtain⟨x1,x2,x3,x4⟩:=p8 wx;obtain⟨y1,y2,y3,y4⟩:=p8 wy;have sx:=nL wx;have sy:=nL wy;have inx:∀s:Int,0≤s→s<((ak xs x).2.2.2.2.length:Nat)→aj xs (x,s):=fun s h0 h1=>⟨hx.1,hx.2,h0,h1⟩
 have iny:∀s:Int,0≤s→s<((ak xs y).2.2.2.2.length:Nat)→aj xs (y,s):=fun s h0 h1=>⟨hy.1,hy.2,h0,h1⟩
 refine⟨⟨hx,hy,fun e=> ?_,fun e=> ?_,by omega,by omega,by have:=wf_data wy;omega,fun e=> ?_,fun e=> ?_⟩,fun e=>(r5 e).2,fun e=> ?_⟩
 ·have kx:(ak xs x).2.2.2.2.length=3:=x3 (by rcases e with e|e;(have:=r1 e;omega);(have:=r2 e;omega));have ky:(ak xs y).2.2.2.2.length=3:=y3 (by rcases e with e|e;(have:=r1 e;omega);(have:=r2 e;omega));exact⟨inx 1 (by decide) (by omega),inx 2 (by decide) (by omega),iny 1 (by decide) (by omega),iny 2 (by decide) (by omega)⟩
 ·have kx:(ak xs x).2.2.2.2.length=3:=x3 (by have:=r3 e;omega);exact⟨inx 1 (by decide) (by omega),inx 2 (by decide) (by omega)⟩
 ·obtain⟨a1,a2⟩:=r5 e;refine⟨?_,fun k7=> ?_,fun k7=> ?_⟩
  ·rcases a2 with q|q
   ·exact iny 1 (by decide) (by rw[y3 (by omega)];decide)
   ·exact iny 1 (by decide) (by rw[y2 (by omega)];decide)
  ·exact iny 2 (by decide) (by rw[y3 (by omega)];decide)
  ·have:=(LB wy (by omega)).1;omega
 ·refine⟨?_,fun k6=> ?_,fun k6=> ?_⟩
  ·exact iny 1 (by decide) (by rw[y2 (by have:=r6 e;omega)];decide)
  ·exact(yK wy (by have:=r6 e;omega)).1
  ·have q:=r6 e;have k9:(ak xs x).1=9:=by omega
   exact⟨(yH wx k9).1,h6 k9 (by omega)⟩
 ·have q:=r6 e;refine⟨fun k=>(yK wy k).1,fun k=> ?_⟩;have k9:(ak xs x).1=9:=by omega
  exact⟨(yH wx k9).1,h6 k9 (by omega),k9⟩
theorem qV(h:D8 (ak xs x) (ak xs y)=false):(ak xs x).1=9→(ak xs y).1=10→(ak xs x).2.2.1<((ak xs y).2.2.2.1.length:Nat):=fun h9 h10=>by
 unfold D8 at h;rw[show((ak xs x).1==9)=true by simpa using h9,show((ak xs y).1==10)=true by simpa using h10]at h;simp only[cond_true,decide_eq_false_iff_not]at h;omega
theorem II(hy:(ak xs y).1≠1)(hc:1≤c∧c≤7)(hb:RY bk)(h7:c=7→(0≤(ak xs x).2.2.1∧(ak xs x).2.2.1<(bk.length:Nat))):∀z∈vH bk xs c x y,z.1≠1:=by
 have hcs:c=1∨c=2∨c=3∨c=4∨c=5∨c=6∨c=7:=by omega
 intro z hz;rcases hcs with rfl|rfl|rfl|rfl|rfl|rfl|rfl
 ·cases hz
 ·cases hz
 ·have hz':z∈[oQ xs y]++[oQ xs y]++List.replicate ((ak xs y).2.2.2.2.length-1) (bH 4 (ak xs x).2.1 0 [] 3):=hz;rw[List.mem_append,List.mem_append,List.mem_singleton]at hz';rcases hz' with(e|e)|e
  ·rw[e];exact hy
  ·rw[e];exact hy
  ·rw[List.eq_of_mem_replicate e];intro k;cases k
 ·have hz':z∈List.replicate ((ak xs y).2.2.2.2.length-1) (bH 5 0 0 [] 1):=hz;rw[List.eq_of_mem_replicate hz'];intro k;cases k
 ·have hz':z∈(bif (ak xs y).1==7 then[bH 8 (ak xs y).2.1 (ak xs y).2.2.1 [(ak xs x).2.2.1] 2]else[bH 6 0 (Ob (ak xs y).2.2.1 (qG (ak xs y).2.2.2.1 0) (ak xs x).2.2.1) [] 1]):=hz;cases hk:(ak xs y).1==7 with
  |true=>rw[hk,cond_true,List.mem_singleton]at hz';rw[hz'];intro k;cases k
  |false=>rw[hk,cond_false,List.mem_singleton]at hz';rw[hz'];intro k;cases k
 ·have hz':z∈(bif (ak xs x).1==6 then[bH 12 (ak xs y).2.1 (qG (ak xs y).2.2.2.1 (bif (ak xs x).2.2.1==0 then 1 else 0)) [] 1]
   else[bH 12 (ak xs y).2.1 (qG (ak xs y).2.2.2.1 (ak xs x).2.2.1) [] 1]++List.replicate ((ak xs x).2.2.2.2.length-1) (bH 3 (ak xs y).2.1 0 [] 3)):=hz
  cases hk:(ak xs x).1==6 with
  |true=>rw[hk,cond_true,List.mem_singleton]at hz';rw[hz'];intro k;cases k
  |false=>
   rw[hk,cond_false,List.mem_append,List.mem_singleton]at hz';rcases hz' with e|e
   ·rw[e];intro k;cases k
   ·rw[List.eq_of_mem_replicate e];intro k;cases k
 ·obtain⟨v0,v1⟩:=h7 rfl;have hz':z∈((qO bk xs x).drop 1).map (fO ((xs.length:Nat)-1)):=hz;obtain⟨w,hw,rfl⟩:=List.mem_map.1 hz';unfold qO fQ at hw;rw[←List.map_drop]at hw;obtain⟨u,hu,rfl⟩:=List.mem_map.1 hw;obtain⟨i,hi,rfl⟩:=List.mem_iff_getElem.1 hu;have hrt:=hb.rt _ v0 v1;generalize gZ bk (ak xs x).2.2.1=t at*;rw[List.length_drop]at hi;rw[List.getElem_drop];have:=hrt ((1+i:Nat):Int) (by omega) (by omega);rw[Jm (by omega)]at this;show(pQ _ t[1+i]).1≠1;unfold pQ;cases bn (t[1+i]).kind
  ·exact this
  ·exact this
theorem Twin.next(h:Twin kv xs ys)(k:kH (Gone kv) xs x y)(hb:RY bk)(rx:(ak xs x).1≠1)(ry:(ak xs y).1≠1)(hr:rule (ak xs x).1 (ak xs x).2.1 (ak xs y).1 (ak xs y).2.1=c)(hc:1≤c∧c≤7)(hcl:D8 (ak xs x) (ak xs y)=false)
  (h7:c=7→(ak xs x).2.2.1<(bk.length:Nat)∧wK (ak xs x).2.1 (gZ bk (ak xs x).2.2.1)=true):LU xs c x y∧LU ys c x y∧(c=7→0≤(ak xs x).2.2.1)∧Twin (Dp kv (kZ c x y)) (mO bk xs c x y) (JC bk ys c x y)∧(mO bk xs c x y).length=xs.length+(vH bk xs c x y).length:=by
 have hx:0≤x∧x<(xs.length:Nat):=⟨k.px.1,k.px.2.1⟩;have hy:0≤y∧y<(xs.length:Nat):=⟨k.py.1,k.py.2.1⟩;have wx:=h.wf x hx.1 hx.2 k.lx;have wy:=h.wf y hy.1 hy.2 k.ly;have sp:=Gd wx wy hx hy hr hc (qV hcl);have ex:=h.at_ hx.1 hx.2 k.lx;have ey:=h.at_ hy.1 hy.2 k.ly;have sy:LU ys c x y:=Gd (by rw[ex];exact wx) (by rw[ey];exact wy) (by rw[←h.len];exact hx) (by rw[←h.len];exact hy) (by rw[ex,ey];exact hr) hc (qV (by rw[ex,ey];exact hcl));have v0:c=7→0≤(ak xs x).2.2.1:=fun e=>(yI wx ((lY hr (by omega)).2.2.2.2.2.2 e).1).1
 have sg:=zC (bk:=bk) (xs:=xs) (x:=x) (y:=y) hc (by omega);have hln:(mO bk xs c x y).length=xs.length+(vH bk xs c x y).length:=by rw[sg.1,List.length_append]
 have gr:∀i,Gone (Dp kv (kZ c x y)) i↔Gone kv i∨i∈kZ c x y:=fun i=>J2 kv _ i
 have ge:Gone (Dp kv (kZ c x y))=fun i=>Gone kv i∨i∈kZ c x y:=funext fun i=>propext (gr i)
 have gxy:∀i,i∈kZ c x y→i=x∨i=y:=fun i hi=>by
  unfold kZ at hi;cases hq:c==7 with
  |true=>rw[hq,cond_true,List.mem_singleton]at hi;exact .inl hi
  |false=>rw[hq,cond_false]at hi;simpa using hi
 have nx:x≠0:=fun e=>rx (by rw[e];exact h.r1)
 have ny:y≠0:=fun e=>ry (by rw[e];exact h.r1)
 have ksig:∀i:Int,0≤i→i<(xs.length:Nat)→(ak (mO bk xs c x y) i).1=(ak xs i).1:=fun i i0 i1=>by
  have:=sg.2 i i0 (by rw[hln];omega);rw[dI (by omega)]at this;exact congrArg (fun s:Int×Int×Int×List Int×Nat=>s.1) this
 refine⟨sp,sy,v0,?_,hln⟩;refine⟨?_,?_,?_,?_,?_,?_,by omega,?_,Rp h.kt _,?_,MC sp.toIntPre h.al h.p0 hc hb.toBkW fun e=>⟨v0 e,(h7 e).1⟩⟩
 ·rw[ge];exact Ke h.st k (fun i hi=>(h.dl i hi).2) h.wf hr hc hb.toBkW fun e=>(h7 e).1
 ·rw[ge];exact Kg h.wf hx hy k.lx k.ly hr hc hb.toBkW (fun e e9=>by
   have q:=(lY hr (by omega)).2.2.2.2.2.1 e;exact qV hcl e9 (by omega)) h7
 ·intro i hi;rcases(gr i).1 hi with e|e
  ·have:=h.dl i e;omega
  ·rcases gxy i e with e|e<;>omega
 ·intro i hi;unfold JC;have hl:=h.len;have hle:=Ih (xs:=ys) bk c x y;have n1:BL x (dN (o7 bk ys c x y) x):=BL.new hx.1 (by omega);have n2:BL y (dN (dN (o7 bk ys c x y) x) y):=BL.new hy.1 (by rw[qX];omega);rcases(gr i).1 hi with e|e
  ·have q:=(h.hole i e).inter bk c x y;cases c==7
   ·exact(q.drop x).drop y
   ·exact q.drop x
  ·unfold kZ at e;cases hq:c==7 with
   |true=>rw[hq,cond_true,List.mem_singleton]at e;rw[e];exact n1
   |false=>
    rw[hq,cond_false]at e;have e2:i=x∨i=y:=by simpa using e
    rcases e2 with e2|e2
    ·rw[e2];exact n1.drop y
    ·rw[e2];exact n2
 ·rw[ksig 0 (Int.le_refl 0) (by have:=h.rl;omega)];exact h.r1
 ·intro e;rcases(gr 0).1 e with e|e
  ·exact h.r0 e
  ·rcases gxy 0 e with e|e
   ·exact nx e.symm
   ·exact ny e.symm
 ·intro i i0 i1 hi;have hi2:¬Gone kv i:=fun e=>hi ((gr i).2 (.inl e))
  by_cases hl:i<(xs.length:Nat)
  ·rw[ksig i (by omega) hl];exact h.uq i i0 hl hi2
  ·have:=sg.2 i (by omega) i1;have hlt:i.toNat-xs.length<(vH bk xs c x y).length:=by omega
   have e:ak (xs++vH bk xs c x y) i=(vH bk xs c x y)[i.toNat-xs.length]:=by
    unfold ak elt;rw[List.getD_eq_getElem?_getD,List.getElem?_append_right (by omega),List.getElem?_eq_getElem hlt];rfl
   rw[e]at this;have k1:(ak (mO bk xs c x y) i).1=((vH bk xs c x y)[i.toNat-xs.length]).1:=congrArg (fun s:Int×Int×Int×List Int×Nat=>s.1) this;rw[k1];exact II ry hc hb (fun e=>⟨v0 e,(h7 e).1⟩) _ (List.getElem_mem hlt)
 ·have gf:∀{kv:List (Int×Bool)} {i:Int},¬Gone kv i→gG false kv i=false:=fun {kv i} hi=>by
   cases hq:gG false kv i with
   |true=>exact absurd hq hi
   |false=>rfl
  have c1:kX (fZ kv x true) xs.length=kX kv xs.length+1:=by rw[uj hx.1 (gf k.lx),if_pos hx.2]
  have l1:(fZ kv x true).length=kv.length+1:=zF h.kt (gf k.lx);have y1:gG false (fZ kv x true) y=false:=by rw[uI,if_neg k.ne];exact gf k.ly
  have c2:kX (fZ (fZ kv x true) y true) xs.length=kX kv xs.length+2:=by rw[uj hy.1 y1,if_pos hy.2,c1]
  have l2:(fZ (fZ kv x true) y true).length=kv.length+2:=by rw[zF (Gg h.kt x) y1,l1]
  have hn:∀i:Int,(xs.length:Int)≤i→gG false (Dp kv (kZ c x y)) i=false:=fun i hi=>gf fun e=>by
   rcases(gr i).1 e with e|e
   ·have:=h.dl i e;omega
   ·rcases gxy i e with e|e<;>omega
  rw[hln,zh hn];have hk:=h.kl;unfold kZ;cases c==7
  ·show(fZ (fZ kv x true) y true).length=kX (fZ (fZ kv x true) y true) xs.length;omega
  ·show(fZ kv x true).length=kX (fZ kv x true) xs.length;omega
end
end Go.Tr
namespace Go.Tr
open Go Go.RowKit
section
variable {cx:Cx}{β:Nat→Value}{w:World}{R:List bU}
end
end Go.Tr
namespace Go.Tr
open Go Go.RowKit
section
variable {b:Int}{t:List ah}
end
end Go.Tr
namespace Go.Tr
open Go Go.RowKit
structure Ny(bk:List (List ah)):Prop extends RY bk where
 tl:∀v:Int,0≤v→v<(bk.length:Nat)→(gZ bk v).length≤600
 bl:bk.length≤1000
section
variable {bk:List (List ah)}
theorem BU{v:Int}(h:¬(0≤v∧v<(bk.length:Nat)))(h0:0≤v):gZ bk v=[]:=by
 unfold gZ elt;rw[List.getD_eq_getElem?_getD,List.getElem?_eq_none (by omega)];rfl
theorem wM{xs:List ah}{i:Nat}(h:xs.length≤i):ak xs (i:Nat)=dflt aL:=by
 unfold ak elt;rw[List.getD_eq_getElem?_getD,Int.toNat_natCast,List.getElem?_eq_none h];rfl
theorem Ny.len(h:Ny bk)(v:Nat):(gZ bk (v:Nat)).length≤600:=by
 by_cases hv:0≤((v:Nat):Int)∧((v:Nat):Int)<(bk.length:Nat)
 ·exact h.tl _ hv.1 hv.2
 ·rw[BU hv (by omega)];decide
theorem Ny.ag(h:Ny bk)(v j:Nat):(0≤(ak (gZ bk (v:Nat)) (j:Nat)).2.1∧(ak (gZ bk (v:Nat)) (j:Nat)).2.1≤8)∧(ak (gZ bk (v:Nat)) (j:Nat)).2.2.2.1.length≤4∧(ak (gZ bk (v:Nat)) (j:Nat)).2.2.2.2.length≤4:=by
 by_cases hv:0≤((v:Nat):Int)∧((v:Nat):Int)<(bk.length:Nat)
 ·by_cases hj:j<(gZ bk (v:Nat)).length
  ·have w:=h.wf _ hv.1 hv.2 (j:Nat) (by omega) (by omega);have h1:=BG w;exact⟨by omega,wf_data w,(nL w).2⟩
  ·rw[wM (by omega)];decide
 ·rw[BU hv (by omega),wM (Nat.zero_le _)];decide
theorem Ny.small(h:Ny bk)(v:Nat):oK (gZ bk (v:Nat)):=by
 refine⟨by have:=h.len v;omega,fun i=> ?_⟩;have:=(h.ag v i).2;exact⟨by show(ak (gZ bk (v:Nat)) (i:Nat)).2.2.2.1.length≤1048576;omega,by show(ak (gZ bk (v:Nat)) (i:Nat)).2.2.2.2.length≤1048576;omega⟩
theorem Ny.ok(h:Ny bk):Ox bk:=fun v j=>(h.ag v j).1
end
end Go.Tr
namespace Go.Tr
open Go Go.RowKit
def gN(xs:List ah):fU:=⟨xs.map gA⟩
theorem F9(xs:List ah):(xs.map gA).flatMap aF.enc=List.flatMap (enc aL) xs:=by
 induction xs with
 |nil=>rfl
 |cons x l ih=>rw[List.map_cons,List.flatMap_cons,List.flatMap_cons,ih,JX]
theorem JZ(xs:List ah):(gN xs).enc=enc BD xs:=by
 show[D.sl (xs.map gA).length ((xs.map gA).flatMap aF.enc)]=[D.sl _ _];rw[F9,List.length_map]
theorem F8(xs:List ah)(i:Nat):fq (xs.map gA) i=gA (ak xs (i:Nat)):=by
 unfold fq ak elt;rw[Int.toNat_natCast,List.getD_eq_getElem?_getD,List.getD_eq_getElem?_getD,List.getElem?_map];cases xs[i]? <;>rfl
def gP(p:aC):aR:=⟨p.1,p.2⟩
theorem NU(ps:List aC)(k:Nat):gK (ps.map gP) k=gP (elt (dflt aO) ps (k:Nat)):=by
 unfold gK elt;rw[Int.toNat_natCast,List.getD_eq_getElem?_getD,List.getD_eq_getElem?_getD,List.getElem?_map];cases ps[k]? <;>rfl
theorem xw(a:ah):(gA a).aQ=a.2.2.2.2.map gP:=rfl
theorem OZ{p q:aC}(h:gP p=gP q):p=q:=by
 have h1:=congrArg aR.agent h;have h2:=congrArg aR.slot h;exact Prod.ext h1 h2
structure ow(xs:List ah):Prop where
 l1:1≤xs.length
 l2:xs.length≤600
 wf:∀i:Int,0≤i→i<(xs.length:Nat)→Wf (ak xs i)
 rt:∀i:Int,0≤i→i<(xs.length:Nat)→((ak xs i).1=1↔i=0)
 wi:dX (fun p=>aj xs p) xs
end Go.Tr
