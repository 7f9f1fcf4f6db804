
/- Nets as data: agents, ports, wires. No program in it. -/
import Derived.Test.YtbdimbjclhmeoaaGreatVV
import Derived.Test.YtbdimbjclhmeoaaGreatValid
set_option linter.unusedSimpArgs false
set_option linter.unusedVariables false
set_option linter.unusedSectionVars false
namespace Go.Tr
open Go Go.RowKit
abbrev aK:U:=.pair (.int .i64) (.int .i64)
abbrev aD:U:=.pair (.int .i64) (.pair (.int .i64) (.pair (.int .i64) (.pair (.sl (.int .i64)) (.sl aK))))
abbrev aZ:U:=.sl aD
abbrev aC:=Int×Int
abbrev ak:=Int×Int×Int×List Int×List aC
abbrev aS:=List ak
abbrev iQ:=List (List ak)
def ah(xs:List ak)(i:Int):ak:=elt (dflt aD) xs i
abbrev ak.kind(a:ak):Int:=a.1
abbrev ak.level(a:ak):Int:=a.2.1
abbrev ak.value(a:ak):Int:=a.2.2.1
abbrev ak.data(a:ak):List Int:=a.2.2.2.1
abbrev ak.aO(a:ak):List aC:=a.2.2.2.2
def ay(xs:List ak)(p:aC):aC:=elt (dflt aK) (ah xs p.1).aO p.2
def aN(xs:List ak)(p q:aC):List ak:=xs.set p.1.toNat ((ah xs p.1).1,(ah xs p.1).2.1,(ah xs p.1).2.2.1,(ah xs p.1).2.2.2.1,(ah xs p.1).2.2.2.2.set p.2.toNat q)
def bD(xs:List ak)(p q:aC):List ak:=aN (aN xs p q) q p
def aj(xs:List ak)(p:aC):Prop:=0<=p.1/\p.1<(xs.length:Nat)/\0<=p.2/\p.2<((ah xs p.1).aO.length:Nat)
abbrev vP(p:aC):SV:=.agg [.int .i64 p.1,.int .i64 p.2]
theorem cO(xs:aS)(p q:aC):(aN xs p q).length=xs.length:=by unfold aN;simp
theorem lu{xs:aS}{k:Nat}{y:ak}{i:Int}:ah (xs.set k y) i=if k=i.toNat/\k<xs.length then y else ah xs i:=by
 unfold ah elt;rw[qC,qC,List.getElem?_set]
 by_cases h:k=i.toNat
 .subst h
  by_cases h2:i.toNat<xs.length
  .simp[h2]
  .simp[h2]
 .simp[h]
theorem d9(xs:aS)(p q:aC)(i:Int):ah (aN xs p q) i=if p.1.toNat=i.toNat/\p.1.toNat<xs.length then((ah xs p.1).1,(ah xs p.1).2.1,(ah xs p.1).2.2.1,(ah xs p.1).2.2.2.1,(ah xs p.1).2.2.2.2.set p.2.toNat q)else ah xs i:=lu
theorem zC{xs:aS}{i j:Int}(h:i.toNat=j.toNat):ah xs i=ah xs j:=by unfold ah elt;rw[h]
theorem nZ(xs:aS)(p q:aC)(i:Int):(ah (aN xs p q) i).aO.length=(ah xs i).aO.length:=by
 rw[d9];split
 .rename_i h;rw[zC h.1.symm];simp[ak.aO]
 .rfl
theorem aj.set{xs:aS}{p q r:aC}(h:aj xs r):aj (aN xs p q) r:=by
 unfold aj at h |-;rw[cO,nZ];exact h
theorem aj.link{xs:aS}{p q r:aC}(h:aj xs r):aj (bD xs p q) r:=h.set.set
theorem jd(xs:aS)(p q:aC):(bD xs p q).length=xs.length:=by unfold bD;rw[cO,cO]
theorem vZ{us:bW}{n:Nat}(hl:us.length=n*5){i:Int}(h0:0<=i)(h1:i<(n:Nat)):i.toNat*5+5<=us.length:=by omega
theorem sW{us:bW}{n:Nat}(hl:us.length=n*5){i:Int}(h0:0<=i)(h1:i<(n:Nat)){o:Nat}(ho:o<5):us[i.toNat*5+o]? =some (us.getD (i.toNat*5+o) undef):=by
 rw[qC,qB (by omega)];rfl
def bY(xs:List ak)(old now:aC):List ak:=bD xs (ay xs old) now
def bg(xs:List ak)(x y:aC):List ak:=bif (ay xs x).1==y.1&&(ay xs x).2==y.2 then xs else bD xs (ay xs x) (ay xs y)
def bf(kind level value:Int)(data:List Int)(n:Nat):ak:=(kind,level,value,data,List.replicate n (0,0))
def fU(kv:List (Int×Bool))(ks:List Int):List (Int×Bool):=ks.foldl (fun kv k=>gM kv k true) kv
theorem Rz(kv:kT){ks:List Int}{i:Nat}(h:i<ks.length):gM (fU kv (ks.take i)) (ks.getD i 0) true=fU kv (ks.take (i+1)):=by
 unfold fU;rw[List.take_add_one,List.foldl_append,qC,qB h];rfl
theorem dG{k:Nat}(h:k<1000000000):IntKind.i64.wrap ((k:Int)+1)=((k+1:Nat):Int):=RQ (by omega)
def dK(xs:List ak):Prop:=xs.length<=1048576/\∀i:Nat,(ah xs i).data.length<=1048576/\(ah xs i).aO.length<=1048576
def pF(c:Int)(x y:ak):Bool:=bif (bif c==6 then y.kind==10 else false)then decide ((y.data.length:Int)<=x.value)else false
def bn(x y:ak):Int×Bool:=
 bif aP x.kind x.level y.kind y.level==2 then(bif pF (aT x.kind x.level y.kind y.level) y x then(8,false)else(aT x.kind x.level y.kind y.level,aP x.kind x.level y.kind y.level==2))
 else(bif pF (aT x.kind x.level y.kind y.level) x y then(8,false)else(aT x.kind x.level y.kind y.level,aP x.kind x.level y.kind y.level==2))
theorem MP{x y:ak}(h1:(aP x.kind x.level y.kind y.level==2)=true)(h2:pF (aT x.kind x.level y.kind y.level) y x=true):bn x y=(8,false):=by unfold bn;rw[h1,h2];rfl
theorem MO{x y:ak}(h1:(aP x.kind x.level y.kind y.level==2)=true)(h2:pF (aT x.kind x.level y.kind y.level) y x=false):bn x y=(aT x.kind x.level y.kind y.level,aP x.kind x.level y.kind y.level==2):=by unfold bn;rw[h1,h2];rfl
theorem MN{x y:ak}(h1:(aP x.kind x.level y.kind y.level==2)=false)(h2:pF (aT x.kind x.level y.kind y.level) x y=true):bn x y=(8,false):=by unfold bn;rw[h1,h2];rfl
theorem ML{x y:ak}(h1:(aP x.kind x.level y.kind y.level==2)=false)(h2:pF (aT x.kind x.level y.kind y.level) x y=false):bn x y=(aT x.kind x.level y.kind y.level,aP x.kind x.level y.kind y.level==2):=by unfold bn;rw[h1,h2];rfl
def oD(p lo hi d:Int):Int×Int:=bif (bif decide (p<lo)then true else decide (hi<p))then(0,2)else(IntKind.i64.wrap (p+d),0)
def dD(c p:Int):Int×Int:=
 bif c==1 then oD p 0 0 (-2)else bif c==2 then oD p 0 0 (-2)else bif c==3 then oD p 0 3 0 else bif c==4 then oD p 0 3 (-2)
 else bif c==5 then oD p 0 0 (-1)else bif c==6 then oD p 0 3 (-1)else bif c==7 then oD p 2 600 (-2)else(0,2)
def jy(by_:Int)(x:ak):ak:=bif bX x.kind then(x.1,x.2.1+by_,x.2.2)else x
def eX(by_:Int)(xs:List ak):Bool:=xs.all fun x=> !(bX x.kind)||decide (x.level+by_<=8)
def bU(by_:Int)(xs:List ak):List ak:=xs.map (jy by_)
def nE(x:Int):Int:=IntKind.i64.wrap (IntKind.i32.wrap x)
def xZ(o a b:Int):Int:=
 bif o==1 then nE (IntKind.i64.wrap (nE a+nE b))else bif o==2 then nE (IntKind.i64.wrap (nE a-nE b))else bif o==3 then nE (IntKind.i64.wrap (nE a*nE b))
 else bif o==4 then(bif nE b==0 then 0 else nE (IntKind.i64.wrap ((nE a).tdiv (nE b))))else bif o==5 then(bif decide (nE a<nE b)then 1 else 0)else bif o==6 then(bif nE a==nE b then 1 else 0)else 0
theorem RP(x:Int):IntKind.i64.wrap (IntKind.i32.wrap (IntKind.u32.wrap (IntKind.u64.wrap x)))=nE x:=by
 unfold nE;simp only[IntKind.wrap,IntKind.bits,IntKind.signed];simp
def bO(xs:List ak):Prop:=∀p,aj xs p->aj xs (ay xs p)
theorem OW{α:Type}{d:α}{xs:List α}{i j:Int}(h:i.toNat=j.toNat):elt d xs i=elt d xs j:=by unfold elt;rw[h]
theorem WQ{α:Type}{d:α}{xs:List α}{k:Nat}{y:α}{i:Int}:elt d (xs.set k y) i=if k=i.toNat/\k<xs.length then y else elt d xs i:=by
 unfold elt;rw[qC,qC,List.getElem?_set]
 by_cases h:k=i.toNat
 .subst h
  by_cases h2:i.toNat<xs.length<;>simp[h2]
 .simp[h]
theorem WO{α:Type}{d:α}{xs ys:List α}{i:Int}(h:i.toNat<xs.length):elt d (xs++ys) i=elt d xs i:=by
 unfold elt;rw[qC,qC,qM h]
theorem SQ{α:Type}{d y:α}{xs:List α}{i:Int}(h:i.toNat=xs.length):elt d (xs++[y]) i=y:=by
 unfold elt;rw[h,qC];simp
theorem bZ{xs ys:aS}{i:Int}(h:i.toNat<xs.length):ah (xs++ys) i=ah xs i:=WO h
theorem pY{y:ak}{xs:aS}{i:Int}(h:i.toNat=xs.length):ah (xs++[y]) i=y:=SQ h
theorem aj.app{xs ys:aS}{p:aC}(h:aj xs p):aj (xs++ys) p:=by
 obtain⟨h1,h2,h3,h4⟩:=h;refine⟨h1,by rw[qA];omega,h3,?_⟩;rw[bZ (by omega)];exact h4
theorem aj.new{k l v:Int}{d:List Int}{n:Nat}{xs:aS}{s:Int}(h0:0<=s)(h1:s<(n:Nat)):aj (xs++[bf k l v d n]) ((xs.length:Nat),s):=by
 refine⟨by omega,by rw[qA,qJ];show((xs.length:Nat):Int)<_;omega,h0,?_⟩;rw[pY (by simp)];simpa[bf,ak.aO]using h1
theorem jH{xs ys:aS}{p:aC}(h:p.1.toNat<xs.length):ay (xs++ys) p=ay xs p:=by unfold ay;rw[bZ h]
theorem H7{xs:aS}{p q r:aC}(hp:aj xs p)(hr:aj xs r):ay (aN xs p q) r=if p=r then q else ay xs r:=by
 obtain⟨p1,p2,p3,p4⟩:=hp;obtain⟨r1,r2,r3,r4⟩:=hr;unfold ay;rw[d9]
 by_cases h:p.1.toNat=r.1.toNat
 .have e:p.1=r.1:=by omega
  rw[if_pos ⟨h,by omega⟩];show elt (dflt aK) ((ah xs p.1).2.2.2.2.set p.2.toNat q) r.2=_;rw[WQ]
  by_cases h2:p.2.toNat=r.2.toNat
  .have e2:p.2=r.2:=by omega
   rw[if_pos ⟨h2,by simp only[ak.aO]at p4;omega⟩,if_pos (Prod.ext e e2)]
  .rw[if_neg (fun hh=>h2 hh.1),if_neg (fun hh=>h2 (by rw[hh])),e]
 .rw[if_neg (fun hh=>h hh.1),if_neg (fun hh=>h (by rw[hh]))]
theorem gF{xs:aS}{p q r:aC}(hp:aj xs p)(hq:aj xs q)(hr:aj xs r):ay (bD xs p q) r=if q=r then p else if p=r then q else ay xs r:=by
 unfold bD;rw[H7 hq.set hr.set,H7 hp hr]
theorem aj.unset{xs:aS}{p q r:aC}(h:aj (aN xs p q) r):aj xs r:=by
 unfold aj at h |-
 rwa[cO,nZ]at h
theorem aj.unlink{xs:aS}{p q r:aC}(h:aj (bD xs p q) r):aj xs r:=h.unset.unset
theorem bO.link{xs:aS}{p q:aC}(h:bO xs)(hp:aj xs p)(hq:aj xs q):bO (bD xs p q):=fun r hr=>by
 have hr':=hr.unlink;rw[gF hp hq hr'];split
 .exact hp.link
 .split
  .exact hq.link
  .exact(h r hr').link
theorem bO.move{xs:aS}{p q:aC}(h:bO xs)(hp:aj xs p)(hq:aj xs q):bO (bY xs p q):=h.link (h p hp) hq
theorem aj.move{xs:aS}{p q r:aC}(h:aj xs r):aj (bY xs p q) r:=h.link
theorem aj.join{xs:aS}{p q r:aC}(h:aj xs r):aj (bg xs p q) r:=by
 unfold bg;cases ((ay xs p).1==q.1&&(ay xs p).2==q.2)with
 |true=>exact h
 |false=>exact h.link
theorem bO.join{xs:aS}{p q:aC}(h:bO xs)(hp:aj xs p)(hq:aj xs q):bO (bg xs p q):=by
 unfold bg;cases ((ay xs p).1==q.1&&(ay xs p).2==q.2)with
 |true=>exact h
 |false=>exact h.link (h p hp) (h q hq)
theorem bO.add{xs:aS}(h:bO xs)(h0:aj xs (0,0))(k l v:Int)(d:List Int)(n:Nat):bO (xs++[bf k l v d n]):=fun r hr=>by
 by_cases hlt:r.1.toNat<xs.length
 .rw[jH hlt];obtain⟨r1,r2,r3,r4⟩:=hr;rw[bZ hlt]at r4;exact(h r ⟨r1,by omega,r3,r4⟩).app
 .obtain⟨r1,r2,r3,r4⟩:=hr;rw[qA,qJ]at r2;have e:r.1.toNat=xs.length:=by omega
  have hp:ay (xs++[bf k l v d n]) r=(0,0):=by
   unfold ay;rw[pY e]at r4 |-;simp only[bf,ak.aO,List.length_replicate]at r4;unfold elt;rw[qC];simp only[bf,ak.aO];rw[List.getElem?_replicate];split<;>rfl
  rw[hp];exact h0.app
theorem gU(xs:aS)(p q:aC):(bY xs p q).length=xs.length:=jd _ _ _
theorem uf(xs:aS)(p q:aC):(bg xs p q).length=xs.length:=by
 unfold bg;cases ((ay xs p).1==q.1&&(ay xs p).2==q.2)<;>simp[jd]
theorem lM{xs:aS}{p q a b:aC}(hp:aj xs p)(hq:aj xs q)(hn:p≠q):aN (aN xs p a) q b=aN (aN xs q b) p a:=by
 obtain⟨p1,p2,p3,p4⟩:=hp;obtain⟨q1,q2,q3,q4⟩:=hq
 by_cases h:p.1.toNat=q.1.toNat
 .have e:p.1=q.1:=by omega
  have h2:p.2.toNat≠q.2.toNat:=fun h2=>hn (Prod.ext e (by omega))
  have k1:ah (aN xs p a) q.1=((ah xs p.1).1,(ah xs p.1).2.1,(ah xs p.1).2.2.1,(ah xs p.1).2.2.2.1,(ah xs p.1).2.2.2.2.set p.2.toNat a):=by
   rw[d9,if_pos ⟨h,by omega⟩]
  have k2:ah (aN xs q b) p.1=((ah xs q.1).1,(ah xs q.1).2.1,(ah xs q.1).2.2.1,(ah xs q.1).2.2.2.1,(ah xs q.1).2.2.2.2.set q.2.toNat b):=by
   rw[d9,if_pos ⟨h.symm,by omega⟩]
  rw[show aN (aN xs p a) q b=(aN xs p a).set q.1.toNat ((ah (aN xs p a) q.1).1,(ah (aN xs p a) q.1).2.1,(ah (aN xs p a) q.1).2.2.1,(ah (aN xs p a) q.1).2.2.2.1,(ah (aN xs p a) q.1).2.2.2.2.set q.2.toNat b) from rfl,show aN (aN xs q b) p a=(aN xs q b).set p.1.toNat ((ah (aN xs q b) p.1).1,(ah (aN xs q b) p.1).2.1,(ah (aN xs q b) p.1).2.2.1,(ah (aN xs q b) p.1).2.2.2.1,(ah (aN xs q b) p.1).2.2.2.2.set p.2.toNat a) from rfl,k1,k2];unfold aN;rw[h,List.set_set,List.set_set,e]
  simp only[];rw[List.set_comm _ _ h2]
 .have k1:ah (aN xs p a) q.1=ah xs q.1:=by rw[d9,if_neg fun hh=>h hh.1]
  have k2:ah (aN xs q b) p.1=ah xs p.1:=by rw[d9,if_neg fun hh=>h hh.1.symm]
  rw[show aN (aN xs p a) q b=(aN xs p a).set q.1.toNat ((ah (aN xs p a) q.1).1,(ah (aN xs p a) q.1).2.1,(ah (aN xs p a) q.1).2.2.1,(ah (aN xs p a) q.1).2.2.2.1,(ah (aN xs p a) q.1).2.2.2.2.set q.2.toNat b) from rfl,show aN (aN xs q b) p a=(aN xs q b).set p.1.toNat ((ah (aN xs q b) p.1).1,(ah (aN xs q b) p.1).2.1,(ah (aN xs q b) p.1).2.2.1,(ah (aN xs q b) p.1).2.2.2.1,(ah (aN xs q b) p.1).2.2.2.2.set p.2.toNat a) from rfl,k1,k2];unfold aN;rw[List.set_comm _ _ h]
theorem vo{xs:aS}{p q:aC}(hp:aj xs p)(hq:aj xs q):bD xs p q=bD xs q p:=by
 by_cases h:p=q
 .rw[h]
 .unfold bD;exact lM hp hq h
def kM(d:List Int)(i:Int):Int:=elt (dflt (.int .i64)) d i
def bJ(xs:List ak)(x y:Int):List ak:=
 bif (ah xs y).1==7 then bY (bY (xs++[bf 8 (ah xs y).2.1 (ah xs y).2.2.1 [(ah xs x).2.2.1] 2]) (y,1) ((xs.length:Nat),0)) (y,2) ((xs.length:Nat),1)
 else bY (xs++[bf 6 0 (xZ (ah xs y).2.2.1 (kM (ah xs y).2.2.2.1 0) (ah xs x).2.2.1) [] 1]) (y,1) ((xs.length:Nat),0)
def KV:ak:=(0,0,0,[],[])
def bB(xs:List ak)(a:Int):List ak:=xs.set a.toNat KV
def mV(x c d:Int)(xs:List ak)(i:Nat):List ak:=bD (bD (xs++[bf 4 (ah xs x).2.1 0 [] 3]) ((xs.length:Nat),1) (c,(i:Nat))) ((xs.length:Nat),2) (d,(i:Nat))
def bV(x c d:Int)(xs:List ak):Nat->List ak
 |0=>xs
 |k+1=>mV x c d (bV x c d xs k) (k+1)
def cB(y:Int)(b:Nat)(xs:List ak):Nat->List ak
 |0=>xs
 |k+1=>bY (cB y b xs k) (y,((k:Nat):Int)+1) (((b+k:Nat):Int),0)
def lD(xs:List ak)(y:Int):ak:=bf (ah xs y).1 (ah xs y).2.1 (ah xs y).2.2.1 (ah xs y).2.2.2.1 (ah xs y).2.2.2.2.length
def dup2(xs:List ak)(y:Int):List ak:=xs++[lD xs y]++[lD xs y]
def dup3(xs:List ak)(x y:Int):List ak:=bV x ((xs.length:Nat)) ((xs.length+1:Nat)) (dup2 xs y) ((ah xs y).2.2.2.2.length-1)
def mM(xs:List ak)(x y:Int):List ak:=bY (bY (dup3 xs x y) (x,1) ((xs.length:Nat),0)) (x,2) ((xs.length+1:Nat),0)
def bK(xs:List ak)(x y:Int):List ak:=cB y (xs.length+2) (mM xs x y) ((ah xs y).2.2.2.2.length-1)
def jc(b k:Nat):List Int:=(List.range k).map fun j=>((b+j:Nat):Int)
theorem DU(b k:Nat):jc b (k+1)=jc b k++[((b+k:Nat):Int)]:=by simp[jc,List.range_succ]
theorem mD(b k:Nat):(jc b k).length=k:=by simp[jc]
theorem GU{b k m:Nat}(h:k<m):elt (0:Int) (jc b m) (k:Nat)=((b+k:Nat):Int):=by
 unfold elt jc;rw[qK,qC,qY,List.getElem?_range h];rfl
theorem MU(x c d:Int)(xs:aS)(i:Nat):(mV x c d xs i).length=xs.length+1:=by unfold mV;rw[jd,jd,qA];rfl
theorem jq(x c d:Int)(xs:aS):∀k,(bV x c d xs k).length=xs.length+k
 |0=>rfl
 |k+1=>by unfold bV;rw[MU,jq x c d xs k];omega
theorem GD{x c d:Int}{xs:aS}{i:Nat}{p:aC}(h:aj xs p):aj (mV x c d xs i) p:=h.app.link.link
theorem dA{x c d:Int}{xs:aS}{p:aC}(h:aj xs p):∀k,aj (bV x c d xs k) p
 |0=>h
 |k+1=>GD (dA h k)
theorem MS{x c d:Int}{xs:aS}{i:Nat}(h:bO xs)(h0:aj xs (0,0))(hc:aj xs (c,(i:Nat)))(hd:aj xs (d,(i:Nat))):bO (mV x c d xs i):=
 ((h.add h0 4 (ah xs x).2.1 0 [] 3).link (aj.new (by decide) (by decide)) hc.app).link (aj.link (aj.new (by decide) (by decide))) hd.app.link
theorem om{x c d:Int}{xs:aS}(h:bO xs)(h0:aj xs (0,0)):∀k,(∀i:Nat,i<=k->aj xs (c,(i:Nat))/\aj xs (d,(i:Nat)))->bO (bV x c d xs k)
 |0,_=>h
 |k+1,hk=>MS (om h h0 k fun i hi=>hk i (by omega)) (dA h0 k) (dA (hk (k+1) (Nat.le_refl _)).1 k) (dA (hk (k+1) (Nat.le_refl _)).2 k)
theorem zQ(y:Int)(b:Nat)(xs:aS):∀k,(cB y b xs k).length=xs.length
 |0=>rfl
 |k+1=>by unfold cB;rw[gU,zQ y b xs k]
theorem fT{y:Int}{b:Nat}{xs:aS}{p:aC}(h:aj xs p):∀k,aj (cB y b xs k) p
 |0=>h
 |k+1=>(fT h k).move
theorem mW{y:Int}{b:Nat}{xs:aS}(h:bO xs):∀k,(∀i:Nat,i<k->aj xs (y,((i:Nat):Int)+1)/\aj xs (((b+i:Nat):Int),0))->bO (cB y b xs k)
 |0,_=>h
 |k+1,hk=>(mW h k fun i hi=>hk i (by omega)).move (fT (hk k (by omega)).1 k) (fT (hk k (by omega)).2 k)
theorem iF(xs:aS)(y:Int):(dup2 xs y).length=xs.length+2:=by unfold dup2;simp
theorem pG{xs:aS}{y:Int}{p:aC}(h:aj xs p):aj (dup2 xs y) p:=h.app.app
theorem uX{xs:aS}{y:Int}{i:Int}(h0:0<=i)(h1:i<((ah xs y).2.2.2.2.length:Nat)):aj (dup2 xs y) (((xs.length:Nat):Int),i):=(aj.new h0 h1).app
theorem uY{xs:aS}{y:Int}{i:Int}(h0:0<=i)(h1:i<((ah xs y).2.2.2.2.length:Nat)):aj (dup2 xs y) (((xs.length+1:Nat):Int),i):=by
 have:=aj.new (xs:=xs++[lD xs y]) (k:=(ah xs y).1) (l:=(ah xs y).2.1) (v:=(ah xs y).2.2.1) (d:=(ah xs y).2.2.2.1) h0 h1;rw[qA,qJ]at this;exact this
theorem zO{xs:aS}{y:Int}(h:bO xs)(h0:aj xs (0,0)):bO (dup2 xs y):=(h.add h0 _ _ _ _ _).add h0.app _ _ _ _ _
theorem tQ{x:Int}{c d:Int}{xs:aS}:∀{k i:Nat},i<k->aj (bV x c d xs k) (((xs.length+i:Nat):Int),0)
 |0,i,h=>by omega
 |k+1,i,h=>by
  by_cases e:i=k
  .subst e;have h2:=(aj.new (xs:=bV x c d xs i) (k:=4) (l:=(ah (bV x c d xs i) x).2.1) (v:=0) (d:=[]) (n:=3) (s:=0) (by decide) (by decide)).link (p:=(((bV x c d xs i).length:Nat),1)) (q:=(c,((i+1:Nat):Int)));have h3:=h2.link (p:=(((bV x c d xs i).length:Nat),2)) (q:=(d,((i+1:Nat):Int)));rw[jq]at h3;unfold bV mV;rw[jq];exact h3
  .exact GD (tQ (by omega))
def iW(b:Nat):Nat->aC
 |0=>(((b-1:Nat):Int),0)
 |k+1=>(((b+k:Nat):Int),2)
def oL(lv:Int)(b:Nat)(xs:List ak):Nat->List ak
 |0=>xs
 |k+1=>bD (oL lv b xs k++[bf 3 lv 0 [] 3]) (((b+k:Nat):Int),0) (iW b k)
def Ch(x:Int)(b:Nat)(xs:List ak):Nat->List ak
 |0=>xs
 |k+1=>bY (Ch x b xs k) (x,((k:Nat):Int)+1) (((b+k:Nat):Int),1)
def bE(xs:List ak)(y i:Int):List ak:=xs++[bf 12 (ah xs y).2.1 (kM (ah xs y).2.2.2.1 i) [] 1]
def gZ(xs:List ak)(x y:Int):List ak:=
 bif (ah xs x).1==6 then bY (bE xs y (bif (ah xs x).2.2.1==0 then 1 else 0)) (y,1) ((xs.length:Nat),0)
 else bY (Ch x (xs.length+1) (oL (ah xs y).2.1 (xs.length+1) (bE xs y (ah xs x).2.2.1) ((ah xs x).2.2.2.2.length-1)) ((ah xs x).2.2.2.2.length-1)) (y,1) (iW (xs.length+1) ((ah xs x).2.2.2.2.length-1))
theorem xI(lv:Int)(b:Nat)(xs:aS):∀k,(oL lv b xs k).length=xs.length+k
 |0=>rfl
 |k+1=>by unfold oL;rw[jd,qA,xI lv b xs k];simp;omega
theorem DC{lv:Int}{b:Nat}{xs:aS}{p:aC}(h:aj xs p):∀k,aj (oL lv b xs k) p
 |0=>h
 |k+1=>(DC h k).app.link
theorem zI{lv:Int}{xs:aS}{s:Int}(h0:0<=s)(h1:s<3):∀{k i:Nat},i<k->aj (oL lv xs.length xs k) (((xs.length+i:Nat):Int),s)
 |0,i,h=>by omega
 |k+1,i,h=>by
  by_cases e:i=k
  .subst e;have:=(aj.new (xs:=oL lv xs.length xs i) (k:=3) (l:=lv) (v:=0) (d:=[]) (n:=3) h0 (by omega)).link (p:=(((xs.length+i:Nat):Int),0)) (q:=iW xs.length i);rw[xI]at this;exact this
  .exact(zI h0 h1 (by omega:i<k)).app.link
theorem Gx{lv:Int}{xs:aS}(hr:aj xs (iW xs.length 0)):∀k,aj (oL lv xs.length xs k) (iW xs.length k)
 |0=>hr
 |k+1=>zI (by decide) (by decide) (Nat.lt_succ_self k)
theorem IU{lv:Int}{xs:aS}(h:bO xs)(h0:aj xs (0,0))(hr:aj xs (iW xs.length 0)):∀k,bO (oL lv xs.length xs k)
 |0=>h
 |k+1=>by
  unfold oL;have:=aj.new (xs:=oL lv xs.length xs k) (k:=3) (l:=lv) (v:=0) (d:=[]) (n:=3) (s:=0) (by decide) (by decide);rw[xI]at this;exact((IU h h0 hr k).add (DC h0 k) _ _ _ _ _).link this (Gx hr k).app
theorem OE(x:Int)(b:Nat)(xs:aS):∀k,(Ch x b xs k).length=xs.length
 |0=>rfl
 |k+1=>by unfold Ch;rw[gU,OE x b xs k]
theorem mQ{x:Int}{b:Nat}{xs:aS}{p:aC}(h:aj xs p):∀k,aj (Ch x b xs k) p
 |0=>h
 |k+1=>(mQ h k).move
theorem CV{x:Int}{b:Nat}{xs:aS}(h:bO xs):∀k,(∀i:Nat,i<k->aj xs (x,((i:Nat):Int)+1)/\aj xs (((b+i:Nat):Int),1))->bO (Ch x b xs k)
 |0,_=>h
 |k+1,hk=>(CV h k fun i hi=>hk i (by omega)).move (mQ (hk k (by omega)).1 k) (mQ (hk k (by omega)).2 k)
theorem tO(xs:aS)(y i:Int):(bE xs y i).length=xs.length+1:=by simp[bE]
def eY(b:Int)(xs:List ak)(i:Nat):List ak:=(xs.take i).map (jy b)++xs.drop i
theorem nT(b:Int)(xs:aS)(i:Nat):(eY b xs i).length=xs.length:=by unfold eY;simp;omega
theorem Fy{b:Int}{xs:aS}{i:Nat}(h:i<xs.length):ah (eY b xs i) (i:Nat)=ah xs (i:Nat):=by
 unfold ah elt eY;rw[qK,qC,qC,qL (by simp;omega)];simp;rw[show i-min i xs.length=0 by omega,Nat.add_zero]
theorem pE{xs:aS}{i:Nat}(h:i<xs.length):ah xs (i:Nat)=xs[i]:=by
 unfold ah elt;rw[qK,qC,qB h];rfl
theorem zm{b:Int}{xs:aS}{i:Nat}(h:i<xs.length):eY b xs (i+1)=(eY b xs i).set i (jy b (ah xs (i:Nat))):=by
 unfold eY;rw[List.set_append_right _ _ (by simp;omega),List.take_add_one,qB h,qZ,pE h];have e:i-((xs.take i).map (jy b)).length=0:=by simp;omega
 rw[e,List.drop_eq_getElem_cons h,List.set_cons_zero];simp
theorem Fz{b:Int}{xs:aS}{i:Nat}(h:i<xs.length)(hk:bX (ah xs (i:Nat)).1=false):eY b xs (i+1)=eY b xs i:=by
 rw[zm h]
 have:jy b (ah xs (i:Nat))=ah (eY b xs i) (i:Nat):=by
  rw[Fy h];unfold jy;rw[show bX (ah xs (i:Nat)).kind=false from hk];rfl
 rw[this,pE (by rw[nT];exact h)];exact List.set_getElem_self _
theorem ng{b:Int}{xs:aS}{i:Nat}(h:i<xs.length):eX b (xs.take (i+1))=(eX b (xs.take i)&&(!(bX (ah xs (i:Nat)).1)||decide ((ah xs (i:Nat)).2.1+b<=8))):=by
 unfold eX;rw[List.take_add_one,qB h,List.all_append,pE h];simp
theorem JU{b:Int}{xs:aS}(h:eX b xs=true)(i:Nat):eX b (xs.take i)=true:=by
 unfold eX at h |-;rw[List.all_eq_true]at h |-;exact fun x hx=>h x (List.mem_of_mem_take hx)
abbrev Zb0:U:=.pair aZ (.pair (.sl aZ) .any)
def bG(bk:List (List ak))(i:Int):List ak:=elt ([]:List ak) bk i
def checkN(bk:List (List ak))(xs:List ak)(p:Int×Int):Int×Int×Int×Int:=
 let c:=bn (ah xs p.1) (ah xs p.2)
 let x:=bif c.2 then p.2 else p.1
 let y:=bif c.2 then p.1 else p.2
 bif c.1==8 then(0,0,0,11)else
 bif c.1==7 then(bif decide ((bk.length:Int)<=(ah xs x).2.2.1)then(0,0,0,3)else bif !(eX (ah xs x).2.1 (bG bk (ah xs x).2.2.1))then(0,0,0,9)else(c.1,x,y,0))
 else(c.1,x,y,0)
def tZ(bk:List (List ak))(xs:List ak)(c x y:Int):Int:=
 (dD c (bif c==3 then IntKind.i64.wrap (((ah xs y).2.2.2.2.length:Nat)-1)else bif c==4 then IntKind.i64.wrap (((ah xs y).2.2.2.2.length:Nat)-1)
  else bif c==6 then(bif (ah xs x).1==9 then IntKind.i64.wrap (((ah xs x).2.2.2.2.length:Nat)-1)else 0)else bif c==7 then((bG bk (ah xs x).2.2.1).length:Nat)else 0)).1
def sG(y:Int)(xs:List ak):Nat->List ak
 |0=>xs
 |k+1=>bY (sG y xs k++[bf 5 0 0 [] 1]) (y,((k+1:Nat):Int)) (((xs.length+k:Nat):Int),0)
def iA(xs:List ak)(y:Int):List ak:=sG y xs ((ah xs y).2.2.2.2.length-1)
theorem mX(y:Int)(xs:aS):∀k,(sG y xs k).length=xs.length+k
 |0=>rfl
 |k+1=>by unfold sG;rw[gU,qA,mX y xs k];simp;omega
theorem sS{y:Int}{xs:aS}{p:aC}(h:aj xs p):∀k,aj (sG y xs k) p
 |0=>h
 |k+1=>(sS h k).app.move
theorem CY{y:Int}{xs:aS}(k:Nat):aj (sG y xs k++[bf 5 0 0 [] 1]) (((xs.length+k:Nat):Int),0):=by
 have:=aj.new (xs:=sG y xs k) (k:=5) (l:=0) (v:=0) (d:=[]) (n:=1) (s:=0) (by decide) (by decide)
 rwa[mX]at this
theorem zS{y:Int}{xs:aS}(h:bO xs)(h0:aj xs (0,0)):∀k,(∀i:Nat,i<k->aj xs (y,((i+1:Nat):Int)))->bO (sG y xs k)
 |0,_=>h
 |k+1,hk=>((zS h h0 k fun i hi=>hk i (by omega)).add (sS h0 k) _ _ _ _ _).move (sS (hk k (by omega)) k).app (CY k)
theorem NJ(xs:aS)(p q:aC)(i:Int):(ah (bD xs p q) i).2.2.2.2.length=(ah xs i).2.2.2.2.length:=by
 unfold bD;have h1:=nZ (aN xs p q) q p i;have h2:=nZ xs p q i;exact h1.trans h2
theorem GK{y:Int}{xs:aS}(hy:y.toNat<xs.length):∀k,(ah (sG y xs k) y).2.2.2.2.length=(ah xs y).2.2.2.2.length
 |0=>rfl
 |k+1=>by
  unfold sG bY;rw[NJ,bZ (by rw[mX];omega),GK hy k]
def Iz(bk:List (List ak)):Prop:=∀i:Nat,(∀j:Nat,0<=(ah (bG bk i) j).2.1/\(ah (bG bk i) j).2.1<=8)
def bP(b:Int)(a:ak):ak:=(a.1,a.2.1,a.2.2.1,a.2.2.2.1,a.2.2.2.2.map fun p=>(p.1+b,p.2))
def mJ(bk:List (List ak))(xs:List ak)(x:Int):List ak:=bU (ah xs x).2.1 (bG bk (ah xs x).2.2.1)
def jO(bk:List (List ak))(xs:List ak)(x y:Int):List ak:=
 bD (xs++((mJ bk xs x).drop 1).map (bP ((xs.length:Nat)-1))) (y,0) ((ay (mJ bk xs x) (0,0)).1+((xs.length:Nat)-1),(ay (mJ bk xs x) (0,0)).2)
def aW(bk:List (List ak))(xs:List ak)(c x y:Int):List ak:=
 bif c==1 then bg (bg xs (x,1) (y,1)) (x,2) (y,2)else bif c==2 then bg (bg xs (x,1) (y,1)) (x,2) (y,2)
 else bif c==3 then bK xs x y else bif c==4 then iA xs y else bif c==5 then bJ xs x y else bif c==6 then gZ xs x y else bif c==7 then jO bk xs x y else xs
def bR(c x y:Int):List Int:=bif c==7 then[x]else[x,y]
structure IntPre(xs:List ak)(c x y:Int):Prop where
 x0:0<=x/\x<(xs.length:Nat)
 y0:0<=y/\y<(xs.length:Nat)
 c12:c=1\/c=2->aj xs (x,1)/\aj xs (x,2)/\aj xs (y,1)/\aj xs (y,2)
 c3:c=3->aj xs (x,1)/\aj xs (x,2)
 px:0<(ah xs x).2.2.2.2.length/\(ah xs x).2.2.2.2.length<=1000
 py:0<(ah xs y).2.2.2.2.length/\(ah xs y).2.2.2.2.length<=1000
 dy:(ah xs y).2.2.2.1.length<=1000000
 c5:c=5->aj xs (y,1)/\((ah xs y).1=7->aj xs (y,2))/\((ah xs y).1≠7->0<(ah xs y).2.2.2.1.length)
 c6:c=6->aj xs (y,1)/\((ah xs x).1=6->(ah xs y).2.2.2.1.length=2)/\((ah xs x).1≠6->0<=(ah xs x).2.2.1/\(ah xs x).2.2.1<((ah xs y).2.2.2.1.length:Nat))
def sZ(lv x:Int)(b:Nat)(xs:List ak):Nat->List ak
 |0=>xs
 |k+1=>bY (bD (sZ lv x b xs k++[bf 3 lv 0 [] 3]) (iW b k) (((b+k:Nat):Int),0)) (x,((k+1:Nat):Int)) (((b+k:Nat):Int),1)
def eZ(xs:List ak)(x y:Int):List ak:=
 bif (ah xs y).1==11 then bY (bE xs y (bif (ah xs x).2.2.1==0 then 1 else 0)) (y,1) ((xs.length:Nat),0)
 else bY (sZ (ah xs y).2.1 x (xs.length+1) (bE xs y (ah xs x).2.2.1) ((ah xs x).2.2.2.2.length-1)) (y,1) (iW (xs.length+1) ((ah xs x).2.2.2.2.length-1))
theorem sF(lv x:Int)(b:Nat)(xs:aS):∀k,(sZ lv x b xs k).length=xs.length+k
 |0=>rfl
 |k+1=>by unfold sZ;rw[gU,jd,qA,sF lv x b xs k];simp;omega
theorem qp{lv x:Int}{b:Nat}{xs:aS}{p:aC}(h:aj xs p):∀k,aj (sZ lv x b xs k) p
 |0=>h
 |k+1=>(qp h k).app.link.move
theorem OL{lv x:Int}{xs:aS}{s:Int}(h0:0<=s)(h1:s<3):∀{k i:Nat},i<k->aj (sZ lv x xs.length xs k) (((xs.length+i:Nat):Int),s)
 |0,i,h=>by omega
 |k+1,i,h=>by
  by_cases e:i=k
  .subst e;have:=(aj.new (xs:=sZ lv x xs.length xs i) (k:=3) (l:=lv) (v:=0) (d:=[]) (n:=3) h0 (by omega));rw[sF]at this;exact this.link.move
  .exact(OL h0 h1 (by omega:i<k)).app.link.move
theorem zJ{lv x:Int}{xs:aS}(hr:aj xs (iW xs.length 0)):∀k,aj (sZ lv x xs.length xs k) (iW xs.length k)
 |0=>hr
 |k+1=>OL (by decide) (by decide) (Nat.lt_succ_self k)
theorem xJ{lv x:Int}{xs:aS}(k:Nat){s:Int}(h0:0<=s)(h1:s<3):aj (sZ lv x xs.length xs k++[bf 3 lv 0 [] 3]) (((xs.length+k:Nat):Int),s):=by
 have:=aj.new (xs:=sZ lv x xs.length xs k) (k:=3) (l:=lv) (v:=0) (d:=[]) (n:=3) h0 (by omega)
 rwa[sF]at this
theorem zK{lv x:Int}{xs:aS}(h:bO xs)(h0:aj xs (0,0))(hr:aj xs (iW xs.length 0)):∀k,(∀i:Nat,i<k->aj xs (x,((i+1:Nat):Int)))->bO (sZ lv x xs.length xs k)
 |0,_=>h
 |k+1,hk=>(((zK h h0 hr k fun i hi=>hk i (by omega)).add (qp h0 k) _ _ _ _ _).link (zJ hr k).app (xJ k (by decide) (by decide))).move (qp (hk k (by omega)) k).app.link (xJ k (by decide) (by decide)).link
def xM(lab c d:Int)(xs:List ak)(i:Nat):List ak:=bD (bD (xs++[bf 4 lab 0 [] 3]) ((xs.length:Nat),1) (c,(i:Nat))) ((xs.length:Nat),2) (d,(i:Nat))
def bF(lab c d:Int)(xs:List ak):Nat->List ak
 |0=>xs
 |k+1=>xM lab c d (bF lab c d xs k) (k+1)
theorem K3(xs:aS)(p q:aC)(i:Int):(ah (bD xs p q) i).2.1=(ah xs i).2.1:=by
 unfold bD
 have h:∀(xs:List ak) (p q:aC),(ah (aN xs p q) i).2.1=(ah xs i).2.1:=fun xs p q=>by
  rw[d9];split
  .rename_i h;rw[zC h.1.symm]
  .rfl
 rw[h,h]
theorem mh{x c d:Int}{xs:aS}(hx:x.toNat<xs.length):∀k,bF (ah xs x).2.1 c d xs k=bV x c d xs k/\(ah (bV x c d xs k) x).2.1=(ah xs x).2.1
 |0=>⟨rfl,rfl⟩
 |k+1=>by
  obtain⟨h1,h2⟩:=mh hx k (c:=c) (d:=d);refine⟨?_,?_⟩
  .unfold bF bV xM mV;rw[h1,h2]
  .unfold bV mV;rw[K3,K3,bZ (by rw[jq];omega),h2]
def AQ(z:Int):Prop:=0<=z/\z<=1000000
def gX(b:Int)(ps:List aC)(j:Nat):List aC:=(ps.take j).map (fun p=>(p.1+b,p.2))++ps.drop j
theorem qg(b:Int)(ps:List aC)(j:Nat):(gX b ps j).length=ps.length:=by unfold gX;simp;omega
theorem Ae{b:Int}{ps:List aC}{j:Nat}(h:j<ps.length):elt (dflt aK) (gX b ps j) (j:Nat)=elt (dflt aK) ps (j:Nat):=by
 unfold elt gX;rw[qK,qC,qC,qL (by simp;omega)];simp;rw[show j-min j ps.length=0 by omega,Nat.add_zero]
theorem y9{b:Int}{ps:List aC}{j:Nat}(h:j<ps.length):gX b ps (j+1)=(gX b ps j).set j ((elt (dflt aK) ps (j:Nat)).1+b,(elt (dflt aK) ps (j:Nat)).2):=by
 have he:elt (dflt aK) ps (j:Nat)=ps[j]:=by
  unfold elt;rw[qK,qC,qB h];rfl
 unfold gX;rw[List.set_append_right _ _ (by simp;omega),List.take_add_one,qB h,qZ,he];have e:j-((ps.take j).map fun p:aC=>(p.1+b,p.2)).length=0:=by simp;omega
 rw[e,List.drop_eq_getElem_cons h,List.set_cons_zero];simp
theorem BA(b:Int)(ps:List aC):gX b ps ps.length=ps.map fun p=>(p.1+b,p.2):=by unfold gX;simp
def oC(lv b:Int)(t:List ak)(k:Nat):List ak:=(((bU lv t).drop 1).take k).map (bP b)
theorem GQ{lv b:Int}{t:aS}{k:Nat}(h:k+1<t.length):oC lv b t (k+1)=oC lv b t k++[bP b (jy lv (ah t ((k+1:Nat):Int)))]:=by
 unfold oC bU;rw[List.take_add_one,qZ,List.getElem?_drop,qY,pE h,show 1+k=k+1 by omega,qB h];rfl
theorem KO{lv b:Int}{t:aS}{k:Nat}(h:k+1<=t.length):(oC lv b t k).length=k:=by unfold oC bU;simp;omega
def iG(t:List ak)(lv:Int)(xs:List ak)(y:Int):List ak:=
 bD (xs++oC lv ((xs.length:Nat)-1) t (t.length-1)) (((xs.length:Nat)-1)+(ay t (0,0)).1,(ay t (0,0)).2) (y,0)
def eO(x y:ak):Bool:=bif (bif x.1==9 then y.1==10 else false)then decide ((y.2.2.2.1.length:Int)<=x.2.2.1)else false
def iZ(x y:ak):Bool:=bif (bif x.1==10 then y.1==9 else false)then decide ((x.2.2.2.1.length:Int)<=y.2.2.1)else false
def aR(x y:ak):Int:=bif eO x y then 8 else bif iZ x y then 8 else aT x.1 x.2.1 y.1 y.2.1
def au(xs:List ak)(a b:Int):Int×Int:=bif aP (ah xs a).1 (ah xs a).2.1 (ah xs b).1 (ah xs b).2.1==2 then(b,a)else(a,b)
def Jz(a b:Int):Int:=bif decide (b<a)then a else b
def lX(t:List ak):Nat->Int
 |0=>0
 |k+1=>Jz (lX t k) (ah t (k:Nat)).2.1
def nW(x:ak):Int:=bif x.1==9 then IntKind.i64.wrap ((x.2.2.2.2.length:Nat)-1)else 0
def jK(bk:List (List ak))(c:Int)(x y:ak):Int:=
 bif c==3 then IntKind.i64.wrap ((y.2.2.2.2.length:Nat)-1)else bif c==4 then IntKind.i64.wrap ((y.2.2.2.2.length:Nat)-1)else bif c==6 then nW x else bif c==7 then((bG bk x.2.2.1).length:Nat)else 0
def dM(bk:List (List ak))(x y:ak):Int×Int:=
 bif aR x y==8 then(0,11)else
 bif aR x y==7 then(bif decide ((bk.length:Int)<=x.2.2.1)then(0,3)else bif decide (8<IntKind.i64.wrap (lX (bG bk x.2.2.1) (bG bk x.2.2.1).length+x.2.1))then(0,9)else((dD 7 (jK bk 7 x y)).1,0))
 else((dD (aR x y) (jK bk (aR x y) x y)).1,0)
def fE(xs:List ak):Nat->Nat
 |0=>0
 |k+1=>bif (ah xs (k:Nat)).1 !=0 then fE xs k+1 else fE xs k
theorem Hf(xs:aS):∀k,fE xs k<=k
 |0=>Nat.le_refl _
 |k+1=>by
  have:=Hf xs k;unfold fE;cases ((ah xs (k:Nat)).1 !=0)<;>simp<;>omega
def kr(bk:List (List ak))(xs:List ak)(c x y:Int):List ak:=
 bif c==1 then bg (bg xs (x,1) (y,1)) (x,2) (y,2)else bif c==2 then bg (bg xs (x,1) (y,1)) (x,2) (y,2)
 else bif c==3 then bK xs x y else bif c==4 then iA xs y else bif c==5 then bJ xs x y else bif c==6 then eZ xs x y else bif c==7 then iG (bG bk (ah xs x).2.2.1) (ah xs x).2.1 xs y else xs
def dX(bk:List (List ak))(xs:List ak)(c x y:Int):List ak:=bif c==7 then bB (kr bk xs c x y) x else bB (bB (kr bk xs c x y) x) y
structure MB(xs:List ak)(c x y:Int):Prop extends IntPre xs c x y where
 k5:c=5->(ah xs y).1=7\/(ah xs y).1=8
 k6:c=6->((ah xs y).1=11->(ah xs y).2.2.2.1.length=2)/\((ah xs y).1≠11->0<=(ah xs x).2.2.1/\(ah xs x).2.2.1<((ah xs y).2.2.2.1.length:Nat)/\(ah xs x).1=9)
theorem Bg{xs:aS}{a b:Int}{n:Int}(ha:0<=a/\a<n)(hb:0<=b/\b<n):(0<=(au xs a b).1/\(au xs a b).1<n)/\(0<=(au xs a b).2/\(au xs a b).2<n):=by
 unfold au;cases aP (ah xs a).1 (ah xs a).2.1 (ah xs b).1 (ah xs b).2.1==2
 .exact⟨ha,hb⟩
 .exact⟨hb,ha⟩
theorem iL(xs:aS)(a:Int):(bB xs a).length=xs.length:=List.length_set
theorem F9(xs:aS)(x y:Int):xs.length<=(bK xs x y).length:=by
 unfold bK mM dup3;rw[zQ,gU,gU,jq,iF];omega
theorem Lr(xs:aS)(x y:Int):xs.length<=(bJ xs x y).length:=by
 unfold bJ;cases (ah xs y).1==7
 .rw[qH,gU];simp
 .rw[qG,gU,gU];simp
theorem MI(xs:aS)(x y:Int):xs.length<=(eZ xs x y).length:=by
 unfold eZ;cases (ah xs y).1==11
 .rw[qH,gU,sF];unfold bE;simp;omega
 .rw[qG,gU];unfold bE;simp
def gL(L:aC->Prop)(xs:List ak):Prop:=∀p,L p->aj xs p/\L (ay xs p)/\ay xs (ay xs p)=p/\ay xs p≠p
theorem gL.congr{L M:aC->Prop}{xs:aS}(h:gL L xs)(e:∀p,M p↔L p):gL M xs:=fun p hp=>by
 obtain⟨h1,h2,h3⟩:=h p ((e p).1 hp);exact⟨h1,(e _).2 h2,h3⟩
theorem gL.cut{L:aC->Prop}{xs:aS}(h:gL L xs){a:aC}(ha:L a):gL (fun p=>L p/\p≠a/\p≠ay xs a) xs:=fun p ⟨hp,h1,h2⟩=>by
 obtain⟨k1,k2,k3,k4⟩:=h p hp;refine⟨k1,⟨k2,fun e=>h2 (by rw[<-e,k3]),fun e=>h1 ?_⟩,k3,k4⟩;have:=congrArg (ay xs) e;rw[k3,(h a ha).2.2.1]at this;exact this
theorem dW{p q:aC}(h1:p.1=q.1)(h2:p.2=q.2):p=q:=by cases p;cases q;simp_all
theorem gL.link{L:aC->Prop}{xs:aS}(h:gL L xs){p q:aC}(hp:aj xs p)(hq:aj xs q)(np:¬L p)(nq:¬L q)(hpq:p≠q):gL (fun r=>L r\/r=p\/r=q) (bD xs p q):=fun r hr=>by
 have key:∀s,L s->aj xs s/\s≠p/\s≠q:=fun s hs=>⟨(h s hs).1,fun e=>np (e▸hs),fun e=>nq (e▸hs)⟩
 rcases hr with hr|rfl|rfl
 .obtain⟨h1,h2,h3,h5⟩:=h r hr;obtain⟨_,n1,n2⟩:=key r hr;obtain⟨h4,n3,n4⟩:=key _ h2;have e1:ay (bD xs p q) r=ay xs r:=by rw[gF hp hq h1,if_neg n2.symm,if_neg n1.symm]
  refine⟨h1.link,?_,?_,?_⟩
  .rw[e1];exact .inl h2
  .rw[e1,gF hp hq h4,if_neg n4.symm,if_neg n3.symm,h3]
  .rw[e1];exact h5
 .have e1:ay (bD xs r q) r=q:=by rw[gF hp hq hp,if_neg hpq.symm,if_pos rfl]
  have e2:ay (bD xs r q) q=r:=by rw[gF hp hq hq,if_pos rfl]
  exact⟨hp.link,by rw[e1];exact .inr (.inr rfl),by rw[e1,e2],by rw[e1];exact hpq.symm⟩
 .have e1:ay (bD xs p r) r=p:=by rw[gF hp hq hq,if_pos rfl]
  have e2:ay (bD xs p r) p=r:=by rw[gF hp hq hp,if_neg hpq.symm,if_pos rfl]
  exact⟨hq.link,by rw[e1];exact .inr (.inl rfl),by rw[e1,e2],by rw[e1];exact hpq⟩
theorem gL.move{L:aC->Prop}{xs:aS}(h:gL L xs){old now:aC}(ho:L old)(hn:aj xs now)(nn:¬L now):gL (fun r=>(L r/\r≠old)\/r=now) (bY xs old now):=by
 obtain⟨h1,h2,h3,h4⟩:=h old ho;have hne:ay xs old≠now:=fun e=>nn (e▸h2)
 have:=(h.cut ho).link (p:=ay xs old) (q:=now) (h _ h2).1 hn (fun e=>e.2.2 rfl) (fun e=>nn e.1) hne;refine this.congr fun r=> ?_
 constructor
 .rintro(⟨k1,k2⟩|rfl)
  .by_cases e:r=ay xs old
   .exact .inr (.inl e)
   .exact .inl ⟨k1,k2,e⟩
  .exact .inr (.inr rfl)
 .rintro(⟨k1,k2,k3⟩|rfl|rfl)
  .exact .inl ⟨k1,k2⟩
  .exact .inl ⟨h2,h4⟩
  .exact .inr rfl
theorem gL.join{L:aC->Prop}{xs:aS}(h:gL L xs){x y:aC}(hx:L x)(hy:L y)(hxy:x≠y):gL (fun r=>L r/\r≠x/\r≠y) (bg xs x y):=by
 obtain⟨h1,h2,h3,h4⟩:=h x hx;obtain⟨k1,k2,k3,k4⟩:=h y hy;unfold bg
 by_cases e:ay xs x=y
 .rw[show((ay xs x).1==y.1&&(ay xs x).2==y.2)=true by rw[e];simp];refine(h.cut hx).congr fun r=> ?_
  rw[e]
 .rw[show((ay xs x).1==y.1&&(ay xs x).2==y.2)=false by
   cases hb:((ay xs x).1==y.1&&(ay xs x).2==y.2)with
   |false=>rfl
   |true=>
    simp only[qD,beq_iff_eq]at hb;exact absurd (dW hb.1 hb.2) e]
  rw[qH];have hyx:ay xs y≠x:=fun h=>e (by rw[<-h,k3])
  have hpp:ay xs x≠ay xs y:=fun h=>hxy (by rw[<-h3,h,k3])
  have c1:=h.cut hx;have hy':L y/\y≠x/\y≠ay xs x:=⟨hy,hxy.symm,fun h=>e h.symm⟩;have c2:=c1.cut (a:=y) hy';have:=c2.link (p:=ay xs x) (q:=ay xs y) (h _ h2).1 (h _ k2).1 (fun h=>h.1.2.2 rfl) (fun h=>h.2.2 rfl) hpp;refine this.congr fun r=> ?_
  constructor
  .rintro⟨q1,q2,q3⟩
   by_cases e1:r=ay xs x
   .exact .inr (.inl e1)
   by_cases e2:r=ay xs y
   .exact .inr (.inr e2)
   .exact .inl ⟨⟨q1,q2,e1⟩,q3,e2⟩
  .rintro(⟨⟨q1,q2,q3⟩,q4,q5⟩|rfl|rfl)
   .exact⟨q1,q2,q4⟩
   .exact⟨h2,h4,e⟩
   .exact⟨k2,hyx,k4⟩
theorem gL.app{L:aC->Prop}{xs:aS}(h:gL L xs)(zs:aS):gL L (xs++zs):=fun p hp=>by
 obtain⟨h1,h2,h3,h4⟩:=h p hp;have lt:∀{q:aC},aj xs q->q.1.toNat<xs.length:=fun {q} hq=>by have:=hq.1;have:=hq.2.1;omega
 have e1:=jH (ys:=zs) (lt h1);exact⟨h1.app,by rw[e1];exact h2,by rw[e1,jH (lt (h _ h2).1),h3],by rw[e1];exact h4⟩
def Agree(D:Int->Prop)(xs ys:List ak):Prop:=xs.length=ys.length/\∀i:Int,0<=i->i<(xs.length:Nat)->¬D i->ah xs i=ah ys i
theorem Agree.port{D:Int->Prop}{xs ys:aS}(h:Agree D xs ys){p:aC}(hp:aj xs p)(hd:¬D p.1):aj ys p/\ay ys p=ay xs p:=by
 obtain⟨p1,p2,p3,p4⟩:=hp;have e:=h.2 p.1 p1 p2 hd;exact⟨⟨p1,by rw[<-h.1];exact p2,p3,by rw[<-e];exact p4⟩,by unfold ay;rw[e]⟩
theorem Agree.setPort{D:Int->Prop}{xs ys:aS}(h:Agree D xs ys){p:aC}(q:aC)(hp:aj xs p)(hd:¬D p.1):Agree D (aN xs p q) (aN ys p q):=by
 refine⟨by rw[cO,cO];exact h.1,fun i h0 h1 hi=> ?_⟩;rw[cO]at h1;rw[d9,d9,h.2 p.1 hp.1 hp.2.1 hd,h.2 i h0 h1 hi,h.1]
theorem Agree.link{D:Int->Prop}{xs ys:aS}(h:Agree D xs ys){p q:aC}(hp:aj xs p)(hq:aj xs q)(dp:¬D p.1)(dq:¬D q.1):Agree D (bD xs p q) (bD ys p q):=(h.setPort q hp dp).setPort p hq.set dq
theorem Agree.app{D:Int->Prop}{xs ys:aS}(h:Agree D xs ys)(zs:aS):Agree D (xs++zs) (ys++zs):=by
 refine⟨by rw[qA,qA,h.1],fun i h0 h1 hi=> ?_⟩;rw[qA]at h1
 by_cases hl:i<(xs.length:Nat)
 .rw[bZ (by omega),bZ (by rw[<-h.1];omega)];exact h.2 i h0 hl hi
 .have:∀ws:List ak,ws.length=xs.length->ah (ws++zs) i=zs.getD (i.toNat-xs.length) (dflt aD):=fun ws hw=>by
   unfold ah elt;rw[qC,qL (by omega),hw,qC]
  rw[this xs rfl,this ys h.1.symm]
theorem Agree.mono{D E:Int->Prop}{xs ys:aS}(h:Agree D xs ys)(k:∀i,D i->E i):Agree E xs ys:=⟨h.1,fun i h0 h1 hi=>h.2 i h0 h1 fun hd=>hi (k i hd)⟩
theorem Agree.drop{D:Int->Prop}{xs ys:aS}(h:Agree D xs ys){a:Int}(h0:0<=a)(hd:D a):Agree D xs (bB ys a):=by
 refine⟨by unfold bB;rw[List.length_set];exact h.1,fun i i0 i1 hi=> ?_⟩;unfold bB;rw[lu,if_neg (fun e=>hi (by(have:i=a:=by omega);rw[this];exact hd))];exact h.2 i i0 i1 hi
structure vU(D:Int->Prop)(L:aC->Prop)(xs ys:List ak):Prop where
 ag:Agree D xs ys
 wi:gL L xs
 al:∀p,L p->¬D p.1
section
variable {D:Int->Prop}{L:aC->Prop}{xs ys:aS}
theorem vU.peer(h:vU D L xs ys){p:aC}(hp:L p):ay ys p=ay xs p:=(h.ag.port (h.wi p hp).1 (h.al p hp)).2
theorem vU.move(h:vU D L xs ys){old now:aC}(ho:L old)(hn:aj xs now)(nn:¬L now)(dn:¬D now.1):vU D (fun r=>(L r/\r≠old)\/r=now) (bY xs old now) (bY ys old now):=by
 refine⟨?_,h.wi.move ho hn nn,fun p hp=> ?_⟩
 .unfold bY;rw[h.peer ho];exact h.ag.link (h.wi _ (h.wi _ ho).2.1).1 hn (h.al _ (h.wi _ ho).2.1) dn
 .rcases hp with hp|rfl
  .exact h.al p hp.1
  .exact dn
theorem vU.join(h:vU D L xs ys){x y:aC}(hx:L x)(hy:L y)(hxy:x≠y):vU D (fun r=>L r/\r≠x/\r≠y) (bg xs x y) (bg ys x y):=by
 refine⟨?_,h.wi.join hx hy hxy,fun p hp=>h.al p hp.1⟩;unfold bg;rw[h.peer hx,h.peer hy];cases ((ay xs x).1==y.1&&(ay xs x).2==y.2)with
 |true=>exact h.ag
 |false=>exact h.ag.link (h.wi _ (h.wi _ hx).2.1).1 (h.wi _ (h.wi _ hy).2.1).1 (h.al _ (h.wi _ hx).2.1) (h.al _ (h.wi _ hy).2.1)
theorem vU.link(h:vU D L xs ys){p q:aC}(hp:aj xs p)(hq:aj xs q)(np:¬L p)(nq:¬L q)(hpq:p≠q)(dp:¬D p.1)(dq:¬D q.1):vU D (fun r=>L r\/r=p\/r=q) (bD xs p q) (bD ys p q):=by
 refine⟨h.ag.link hp hq dp dq,h.wi.link hp hq np nq hpq,fun r hr=> ?_⟩;rcases hr with hr|rfl|rfl
 .exact h.al r hr
 .exact dp
 .exact dq
theorem vU.app(h:vU D L xs ys)(zs:aS):vU D L (xs++zs) (ys++zs):=⟨h.ag.app zs,h.wi.app zs,h.al⟩
theorem vU.congr(h:vU D L xs ys){M:aC->Prop}(e:∀p,M p↔L p):vU D M xs ys:=⟨h.ag,h.wi.congr e,fun p hp=>h.al p ((e p).1 hp)⟩
theorem vU.cut(h:vU D L xs ys){a:aC}(ha:L a):vU D (fun p=>L p/\p≠a/\p≠ay xs a) xs ys:=⟨h.ag,h.wi.cut ha,fun p hp=>h.al p hp.1⟩
theorem vU.gone(h:vU D L xs ys)(a:Int)(h0:0<=a)(ha:∀p,L p->p.1≠a):vU (fun i=>D i\/i=a) L xs (bB ys a):=
 ⟨(h.ag.mono fun i hi=>.inl hi).drop h0 (.inr rfl),h.wi,fun p hp e=>e.elim (h.al p hp) (ha p hp)⟩
end
end Go.Tr
namespace Go.Tr
open Go Go.RowKit
def Live(D:Int->Prop)(xs:List ak):aC->Prop:=fun p=>aj xs p/\¬D p.1
def St(D:Int->Prop)(xs ys:List ak):Prop:=vU D (Live D xs) xs ys
theorem aj.je{xs:aS}{p q r:aC}:aj (bD xs p q) r↔aj xs r:=⟨aj.unlink,aj.link⟩
theorem aj.jf{xs:aS}{p q r:aC}:aj (bY xs p q) r↔aj xs r:=aj.je
theorem aj.KX{xs:aS}{p q r:aC}:aj (bg xs p q) r↔aj xs r:=by
 unfold bg;cases ((ay xs p).1==q.1&&(ay xs p).2==q.2)with
 |true=>exact Iff.rfl
 |false=>exact aj.je
theorem aj.dO{xs:aS}{a:ak}{r:aC}:aj (xs++[a]) r↔aj xs r\/(r.1=(xs.length:Nat)/\0<=r.2/\r.2<(a.aO.length:Nat)):=by
 constructor
 .rintro⟨h1,h2,h3,h4⟩;rw[qA,qJ]at h2
  by_cases hl:r.1.toNat<xs.length
  .rw[bZ hl]at h4;exact .inl ⟨h1,by omega,h3,h4⟩
  .have e:r.1.toNat=xs.length:=by omega
   rw[pY e]at h4;exact .inr ⟨by omega,h3,h4⟩
 .rintro(h|⟨h1,h2,h3⟩)
  .exact h.app
  .refine⟨by omega,by rw[qA,qJ];omega,h2,?_⟩;rw[pY (by omega)];exact h3
structure iw(D:Int->Prop)(xs:List ak)(x y:Int):Prop where
 ne:x≠y
 lx:¬D x
 ly:¬D y
 px:aj xs (x,0)
 py:aj xs (y,0)
 w:ay xs (x,0)=(y,0)
section
variable {D:Int->Prop}{xs ys:aS}{x y:Int}
theorem St.open_(h:St D xs ys)(k:iw D xs x y):vU D (fun p=>(aj xs p/\¬D p.1)/\p≠(x,0)/\p≠(y,0)) xs ys:=by
 have:=h.cut (a:=(x,0)) ⟨k.px,k.lx⟩;rw[k.w]at this;exact this
theorem dI{a b s t:Int}(h:a≠b\/s≠t):((a,s):aC)≠(b,t):=fun e=>by
 injection e with e1 e2
 rcases h with h|h
 .exact h e1
 .exact h e2
theorem St.joins(h:St D xs ys)(k:iw D xs x y)(hx:(ah xs x).2.2.2.2.length=3)(hy:(ah xs y).2.2.2.2.length=3):
  St (fun i=>D i\/i=x\/i=y) (bg (bg xs (x,1) (y,1)) (x,2) (y,2)) (bB (bB (bg (bg ys (x,1) (y,1)) (x,2) (y,2)) x) y):=by
 have inx:∀s:Int,0<=s->s<3->aj xs (x,s):=fun s h0 h1=>⟨k.px.1,k.px.2.1,h0,by show s<((ah xs x).2.2.2.2.length:Nat);omega⟩
 have iny:∀s:Int,0<=s->s<3->aj xs (y,s):=fun s h0 h1=>⟨k.py.1,k.py.2.1,h0,by show s<((ah xs y).2.2.2.2.length:Nat);omega⟩
 have s0:=h.open_ k;have s1:=s0.join (x:=(x,1)) (y:=(y,1)) ⟨⟨inx 1 (by decide) (by decide),k.lx⟩,dI (.inr (by decide)),dI (.inl k.ne)⟩ ⟨⟨iny 1 (by decide) (by decide),k.ly⟩,dI (.inl k.ne.symm),dI (.inr (by decide))⟩ (dI (.inl k.ne));have s2:=s1.join (x:=(x,2)) (y:=(y,2)) ⟨⟨⟨inx 2 (by decide) (by decide),k.lx⟩,dI (.inr (by decide)),dI (.inl k.ne)⟩,dI (.inr (by decide)),dI (.inl k.ne)⟩ ⟨⟨⟨iny 2 (by decide) (by decide),k.ly⟩,dI (.inl k.ne.symm),dI (.inr (by decide))⟩,dI (.inl k.ne.symm),dI (.inr (by decide))⟩ (dI (.inl k.ne))
 have key:∀p:aC,Live (fun i=>D i\/i=x\/i=y) (bg (bg xs (x,1) (y,1)) (x,2) (y,2)) p↔((((aj xs p/\¬D p.1)/\p≠(x,0)/\p≠(y,0))/\p≠(x,1)/\p≠(y,1))/\p≠(x,2)/\p≠(y,2)):=fun p=>by
  unfold Live;rw[aj.KX,aj.KX];constructor
  .rintro⟨h1,h2⟩;have h3:p.1≠x:=fun e=>h2 (.inr (.inl e))
   have h4:p.1≠y:=fun e=>h2 (.inr (.inr e))
   have nx:∀s,p≠(x,s):=fun s e=>h3 (by rw[e])
   have ny:∀s,p≠(y,s):=fun s e=>h4 (by rw[e])
   exact⟨⟨⟨⟨h1,fun e=>h2 (.inl e)⟩,nx 0,ny 0⟩,nx 1,ny 1⟩,nx 2,ny 2⟩
  .rintro⟨⟨⟨⟨h1,h2⟩,x0,y0⟩,x1,y1⟩,x2,y2⟩;refine⟨h1,fun e=> ?_⟩;obtain⟨q1,q2,q3,q4⟩:=h1;rcases e with e|e|e
   .exact h2 e
   .rw[e]at q4;have q5:p.2<3:=by(have:p.2<((ah xs x).2.2.2.2.length:Nat):=q4);omega
    have:p.2=0\/p.2=1\/p.2=2:=by omega
    rcases this with e2|e2|e2
    .exact x0 (dW e e2)
    .exact x1 (dW e e2)
    .exact x2 (dW e e2)
   .rw[e]at q4;have q5:p.2<3:=by(have:p.2<((ah xs y).2.2.2.2.length:Nat):=q4);omega
    have:p.2=0\/p.2=1\/p.2=2:=by omega
    rcases this with e2|e2|e2
    .exact y0 (dW e e2)
    .exact y1 (dW e e2)
    .exact y2 (dW e e2)
 have s3:=s2.congr key;have s4:=(s3.gone x k.px.1 fun p hp e=>hp.2 (.inr (.inl e))).gone y k.py.1 fun p hp e=>hp.2 (.inr (.inr e))
 exact⟨s4.ag.mono fun i hi=>by rcases hi with(hi|hi)|hi<;>simp_all,s4.wi,fun p hp=>hp.2⟩
end
end Go.Tr
namespace Go.Tr
open Go Go.RowKit
def SX(D:Int->Prop)(X:aC->Prop)(xs ys:List ak):Prop:=vU D (fun p=>(aj xs p/\¬D p.1)/\¬X p) xs ys
section
variable {D:Int->Prop}{X Y:aC->Prop}{xs ys:aS}
theorem SX.congr(h:SX D X xs ys)(e:∀p,aj xs p->¬D p.1->(Y p↔X p)):SX D Y xs ys:=vU.congr h fun p=>by
 constructor
 .rintro⟨⟨h1,h2⟩,h3⟩;exact⟨⟨h1,h2⟩,fun h4=>h3 ((e p h1 h2).2 h4)⟩
 .rintro⟨⟨h1,h2⟩,h3⟩;exact⟨⟨h1,h2⟩,fun h4=>h3 ((e p h1 h2).1 h4)⟩
theorem SX.add(h:SX D X xs ys)(a:ak):SX D (fun p=>X p\/p.1=(xs.length:Nat)) (xs++[a]) (ys++[a]):=vU.congr (vU.app h [a]) fun p=>by
 rw[aj.dO];constructor
 .rintro⟨⟨h1,h2⟩,h3⟩;rcases h1 with h1|h1
  .exact⟨⟨h1,h2⟩,fun h4=>h3 (.inl h4)⟩
  .exact absurd (.inr h1.1) h3
 .rintro⟨⟨h1,h2⟩,h3⟩;refine⟨⟨.inl h1,h2⟩,fun h4=> ?_⟩;rcases h4 with h4|h4
  .exact h3 h4
  .have:=h1.2.1;omega
theorem SX.move(h:SX D X xs ys){old now:aC}(ho:aj xs old)(od:¬D old.1)(ox:¬X old)(hn:aj xs now)(nd:¬D now.1)(nx:X now):SX D (fun p=>(X p\/p=old)/\p≠now) (bY xs old now) (bY ys old now):=by
 refine vU.congr (vU.move h (old:=old) (now:=now) ⟨⟨ho,od⟩,ox⟩ hn (fun k=>k.2 nx) nd) fun p=> ?_
 rw[aj.jf];constructor
 .rintro⟨⟨h1,h2⟩,h3⟩
  by_cases e:p=now
  .exact .inr e
  .exact .inl ⟨⟨⟨h1,h2⟩,fun k=>h3 ⟨.inl k,e⟩⟩,fun k=>h3 ⟨.inr k,e⟩⟩
 .rintro(⟨⟨⟨h1,h2⟩,h3⟩,h4⟩|rfl)
  .exact⟨⟨h1,h2⟩,fun k=>k.1.elim h3 h4⟩
  .exact⟨⟨hn,nd⟩,fun k=>k.2 rfl⟩
theorem SX.link(h:SX D X xs ys){p q:aC}(hp:aj xs p)(pd:¬D p.1)(px:X p)(hq:aj xs q)(qd:¬D q.1)(qx:X q)(hpq:p≠q):SX D (fun r=>X r/\r≠p/\r≠q) (bD xs p q) (bD ys p q):=by
 refine vU.congr (vU.link h hp hq (fun k=>k.2 px) (fun k=>k.2 qx) hpq pd qd) fun r=> ?_
 rw[aj.je];constructor
 .rintro⟨⟨h1,h2⟩,h3⟩
  by_cases e1:r=p
  .exact .inr (.inl e1)
  by_cases e2:r=q
  .exact .inr (.inr e2)
  .exact .inl ⟨⟨h1,h2⟩,fun k=>h3 ⟨k,e1,e2⟩⟩
 .rintro(⟨⟨h1,h2⟩,h3⟩|rfl|rfl)
  .exact⟨⟨h1,h2⟩,fun k=>h3 k.1⟩
  .exact⟨⟨hp,pd⟩,fun k=>k.2.1 rfl⟩
  .exact⟨⟨hq,qd⟩,fun k=>k.2.2 rfl⟩
theorem SX.start{x y:Int}(h:St D xs ys)(k:iw D xs x y):SX D (fun p=>p=(x,0)\/p=(y,0)) xs ys:=vU.congr (h.open_ k) fun p=>by
 constructor
 .rintro⟨h1,h3⟩;exact⟨h1,fun e=>h3 (.inl e),fun e=>h3 (.inr e)⟩
 .rintro⟨h1,h2,h3⟩;exact⟨h1,fun e=>e.elim h2 h3⟩
theorem SX.QG{x y:Int}(h:SX D X xs ys)(x0:0<=x)(y0:0<=y)(e:∀p,aj xs p->¬D p.1->(X p↔p.1=x\/p.1=y)):St (fun i=>D i\/i=x\/i=y) xs (bB (bB ys x) y):=by
 have s3:vU D (Live (fun i=>D i\/i=x\/i=y) xs) xs ys:=vU.congr h fun p=>by
  unfold Live;constructor
  .rintro⟨h1,h2⟩;have h3:¬D p.1:=fun k=>h2 (.inl k)
   exact⟨⟨h1,h3⟩,fun k=>h2 (.inr ((e p h1 h3).1 k))⟩
  .rintro⟨⟨h1,h2⟩,h3⟩;exact⟨h1,fun k=>k.elim h2 fun k=>h3 ((e p h1 h2).2 k)⟩
 have s4:=(s3.gone x x0 fun p hp e=>hp.2 (.inr (.inl e))).gone y y0 fun p hp e=>hp.2 (.inr (.inr e))
 exact⟨s4.ag.mono fun i hi=>by rcases hi with(hi|hi)|hi<;>simp_all,s4.wi,fun p hp=>hp.2⟩
theorem SX.end1{x:Int}(h:SX D X xs ys)(x0:0<=x)(e:∀p,aj xs p->¬D p.1->(X p↔p.1=x)):St (fun i=>D i\/i=x) xs (bB ys x):=by
 have s3:vU D (Live (fun i=>D i\/i=x) xs) xs ys:=vU.congr h fun p=>by
  unfold Live;constructor
  .rintro⟨h1,h2⟩;have h3:¬D p.1:=fun k=>h2 (.inl k)
   exact⟨⟨h1,h3⟩,fun k=>h2 (.inr ((e p h1 h3).1 k))⟩
  .rintro⟨⟨h1,h2⟩,h3⟩;exact⟨h1,fun k=>k.elim h2 fun k=>h3 ((e p h1 h2).2 k)⟩
 have s4:=s3.gone x x0 fun p hp e=>hp.2 (.inr e)
 exact⟨s4.ag,s4.wi,fun p hp=>hp.2⟩
theorem SX.len(h:SX D X xs ys):xs.length=ys.length:=h.ag.1
theorem KL{y:Int}{p:aC}(hlt:p.1.toNat<xs.length):∀{k:Nat},aj (sG y xs k) p->aj xs p
 |0,h=>h
 |k+1,h=>by
  unfold sG at h;rw[aj.jf,aj.dO,mX]at h;rcases h with h|⟨h,_⟩
  .exact KL hlt h
  .omega
theorem Te{x y:Int}(h:St D xs ys)(k:iw D xs x y)(hD:∀i,D i->i<(xs.length:Nat)):∀n:Nat,n<=(ah xs y).2.2.2.2.length-1->SX D (fun p=>p=(x,0)\/(p.1=y/\p.2<=(n:Nat))) (sG y xs n) (sG y ys n)
 |0,_=>(SX.start h k).congr fun p hp _=>by
  constructor
  .rintro(e|⟨e1,e2⟩)
   .exact .inl e
   .exact .inr (dW e1 (by have:=hp.2.2.1;show p.2=0;omega))
  .rintro(e|e)
   .exact .inl e
   .exact .inr (by rw[e];exact⟨rfl,Int.le_refl _⟩)
 |n+1,hn=>by
  have ih:=Te h k hD n (by omega);have hl:(sG y xs n).length=xs.length+n:=mX y xs n;have hyl:=k.py.2.1;have hy0:=k.py.1;have hpy:aj xs (y,((n+1:Nat):Int)):=⟨hy0,hyl,by omega,by show((n+1:Nat):Int)<((ah xs y).2.2.2.2.length:Nat);omega⟩;have hin:=sS (y:=y) hpy n;have s1:=ih.add (bf 5 0 0 [] 1);have hnew:aj (sG y xs n++[bf 5 0 0 [] 1]) (((xs.length+n:Nat):Int),0):=aj.dO.2 (.inr ⟨by rw[hl],Int.le_refl _,show(0:Int)<1 by decide⟩)
  have s2:=s1.move (old:=(y,((n+1:Nat):Int))) (now:=(((xs.length+n:Nat):Int),0)) hin.app k.ly (by
   rintro((e|⟨_,e⟩)|e)
   .exact dI (.inl k.ne.symm) e
   .have:((n+1:Nat):Int)<=(n:Nat):=e;omega
   .have:y=((sG y xs n).length:Nat):=e;rw[hl]at this;omega) hnew (fun e=>by have:=hD _ e;show False;have h2:((xs.length+n:Nat):Int)<(xs.length:Nat):=this;omega) (.inr (by rw[hl]))
  have hyx:(sG y ys n++[bf 5 0 0 [] 1])=sG y ys n++[bf 5 0 0 [] 1]:=rfl
  have s3:SX D (fun p=>p=(x,0)\/(p.1=y/\p.2<=((n+1:Nat):Int))) (bY (sG y xs n++[bf 5 0 0 [] 1]) (y,((n+1:Nat):Int)) (((xs.length+n:Nat):Int),0)) (bY (sG y ys n++[bf 5 0 0 [] 1]) (y,((n+1:Nat):Int)) (((xs.length+n:Nat):Int),0)):=s2.congr fun p hp _=>by
   rw[aj.jf,aj.dO,hl]at hp;rw[hl];constructor
   .rintro(rfl|⟨e1,e2⟩)
    .refine⟨.inl (.inl (.inl rfl)),dI (.inl ?_)⟩;have:=k.px.2.1;show x≠((xs.length+n:Nat):Int);have h2:x<(xs.length:Nat):=this;omega
    .refine⟨?_,fun e=> ?_⟩
     .by_cases e3:p.2=((n+1:Nat):Int)
      .exact .inr (dW e1 e3)
      .exact .inl (.inl (.inr ⟨e1,by omega⟩))
     .rw[e]at e1;have:((xs.length+n:Nat):Int)=y:=e1;have h2:y<(xs.length:Nat):=hyl;omega
   .rintro⟨((e|⟨e1,e2⟩)|e)|e,e3⟩
    .exact .inl e
    .exact .inr ⟨e1,by omega⟩
    .rcases hp with hp|⟨q1,q2,q3⟩
     .have h2:=hp.2.1;rw[hl]at h2;have e':p.1=((xs.length+n:Nat):Int):=e;omega
     .refine absurd (dW (q:=(((xs.length+n:Nat):Int),0)) e ?_) e3;have:p.2<1:=q3;show p.2=0;omega
    .exact .inr (by rw[e];exact⟨rfl,Int.le_refl _⟩)
  show SX D _ (sG y xs (n+1)) (sG y ys (n+1));unfold sG;rw[<-h.ag.1];exact s3
theorem St.erase{x y:Int}(h:St D xs ys)(k:iw D xs x y)(hD:∀i,D i->i<(xs.length:Nat))(hx:(ah xs x).2.2.2.2.length=1):St (fun i=>D i\/i=x\/i=y) (iA xs y) (bB (bB (iA ys y) x) y):=by
 have e:ah ys y=ah xs y:=(h.ag.2 y k.py.1 k.py.2.1 k.ly).symm;unfold iA;rw[e];have s:=Te h k hD ((ah xs y).2.2.2.2.length-1) (Nat.le_refl _);refine s.QG k.px.1 k.py.1 fun p hp _=> ?_
 have hport:p.1=x\/p.1=y->aj xs p:=fun hc=>by
  have hlt:p.1.toNat<xs.length:=by
   have h1:=k.px.2.1;have h2:=k.py.2.1;have h3:=k.px.1;have h4:=k.py.1
   have g1:x<(xs.length:Nat):=h1;have g2:y<(xs.length:Nat):=h2;have g3:0<=x:=h3;have g4:0<=y:=h4;rcases hc with hc|hc<;>omega
  exact KL hlt hp
 constructor
 .rintro(rfl|⟨e1,_⟩)
  .exact .inl rfl
  .exact .inr e1
 .intro hc;obtain⟨q1,q2,q3,q4⟩:=hport hc;rcases hc with hc|hc
  .rw[hc]at q4;have:p.2<((ah xs x).2.2.2.2.length:Nat):=q4;exact .inl (dW hc (by show p.2=0;omega))
  .rw[hc]at q4;have:p.2<((ah xs y).2.2.2.2.length:Nat):=q4;exact .inr ⟨hc,by omega⟩
theorem Ej{p:aC}(h:aj xs p):p.1.toNat<xs.length:=by have:=h.1;have:=h.2.1;omega
theorem St.operate{x y:Int}(h:St D xs ys)(k:iw D xs x y)(hD:∀i,D i->i<(xs.length:Nat))(hx:(ah xs x).2.2.2.2.length=1)(h7:(ah xs y).1=7->(ah xs y).2.2.2.2.length=3)(h8:(ah xs y).1≠7->(ah xs y).2.2.2.2.length=2):
  St (fun i=>D i\/i=x\/i=y) (bJ xs x y) (bB (bB (bJ ys x y) x) y):=by
 have ey:ah ys y=ah xs y:=(h.ag.2 y k.py.1 k.py.2.1 k.ly).symm;have ex:ah ys x=ah xs x:=(h.ag.2 x k.px.1 k.px.2.1 k.lx).symm;have hn:¬D (xs.length:Nat):=fun e=>by have:=hD _ e;omega
 have xl:x<(xs.length:Nat):=k.px.2.1;have yl:y<(xs.length:Nat):=k.py.2.1;have iny:∀s:Int,0<=s->s<((ah xs y).2.2.2.2.length:Nat)->aj xs (y,s):=fun s h0 h1=>⟨k.py.1,k.py.2.1,h0,h1⟩
 have fin:∀(X:aC->Prop) (a:ak) (zs:List ak),(∀p,aj zs p↔aj (xs++[a]) p)->(∀p,aj (xs++[a]) p->(X p↔(aj xs p/\(p.1=x\/p.1=y))))->∀p,aj zs p->¬D p.1->(X p↔p.1=x\/p.1=y):=fun X a zs hz hX p hp _=>by
  rw[hX p ((hz p).1 hp)];constructor
  .exact fun e=>e.2
  .intro e;refine⟨?_,e⟩;rcases aj.dO.1 ((hz p).1 hp)with q|⟨q,_⟩
   .exact q
   .rcases e with e|e<;>omega
 unfold bJ;rw[ex,ey,<-h.ag.1];cases hk:(ah xs y).1==7 with
 |true=>
  have h3:=h7 (by simpa using hk);simp only[qG];have i1:=iny 1 (by decide) (by omega);have i2:=iny 2 (by decide) (by omega);have s1:=(SX.start h k).add (bf 8 (ah xs y).2.1 (ah xs y).2.2.1 [(ah xs x).2.2.1] 2);have n0:aj (xs++[bf 8 (ah xs y).2.1 (ah xs y).2.2.1 [(ah xs x).2.2.1] 2]) ((xs.length:Nat),0):=aj.dO.2 (.inr ⟨rfl,Int.le_refl _,show(0:Int)<2 by decide⟩);have n1:aj (xs++[bf 8 (ah xs y).2.1 (ah xs y).2.2.1 [(ah xs x).2.2.1] 2]) ((xs.length:Nat),1):=aj.dO.2 (.inr ⟨rfl,show(0:Int)<=1 by decide,show(1:Int)<2 by decide⟩)
  have s2:=s1.move (old:=(y,1)) (now:=((xs.length:Nat),0)) i1.app k.ly (by
   rintro((e|e)|e)
   .exact dI (.inl k.ne.symm) e
   .exact dI (.inr (by decide)) e
   .have:y=(xs.length:Nat):=e;omega) n0 hn (.inr rfl)
  have s3:=s2.move (old:=(y,2)) (now:=((xs.length:Nat),1)) i2.app.move k.ly (by
   rintro⟨((e|e)|e)|e,_⟩
   .exact dI (.inl k.ne.symm) e
   .exact dI (.inr (by decide)) e
   .have:y=(xs.length:Nat):=e;omega
   .exact dI (.inr (by decide)) e) n1.move hn ⟨.inl (.inr rfl),dI (.inr (by decide))⟩
  refine s3.QG k.px.1 k.py.1 (fin _ _ _ (fun p=>by rw[aj.jf,aj.jf]) fun p hp=> ?_)
  have hA:p.1=(xs.length:Nat)->p=(((xs.length:Nat):Int),0)\/p=(((xs.length:Nat):Int),1):=fun e=>by
   rcases aj.dO.1 hp with q|⟨_,q2,q3⟩
   .have:=q.2.1;omega
   .have:p.2<2:=q3;have:p.2=0\/p.2=1:=by omega
    rcases this with e2|e2
    .exact .inl (dW e e2)
    .exact .inr (dW e e2)
  constructor
  .rintro⟨(⟨((e|e)|e)|e,e2⟩|e),e3⟩
   .rw[e];exact⟨k.px,.inl rfl⟩
   .rw[e];exact⟨k.py,.inr rfl⟩
   .rcases hA e with e4|e4
    .exact absurd e4 e2
    .exact absurd e4 e3
   .rw[e];exact⟨i1,.inr rfl⟩
   .rw[e];exact⟨i2,.inr rfl⟩
  .rintro⟨q,e⟩;have ne:∀s,p≠(((xs.length:Nat):Int),s):=fun s e2=>by have:=q.2.1;rw[e2]at this;have h3:((xs.length:Nat):Int)<(xs.length:Nat):=this;omega
   refine⟨?_,ne 1⟩;obtain⟨q1,q2,q3,q4⟩:=q;rcases e with e|e
   .rw[e]at q4;have:p.2<((ah xs x).2.2.2.2.length:Nat):=q4;exact .inl ⟨.inl (.inl (.inl (dW e (by show p.2=0;omega)))),ne 0⟩
   .rw[e]at q4;have:p.2<((ah xs y).2.2.2.2.length:Nat):=q4;have:p.2=0\/p.2=1\/p.2=2:=by omega
    rcases this with e2|e2|e2
    .exact .inl ⟨.inl (.inl (.inr (dW e e2))),ne 0⟩
    .exact .inl ⟨.inr (dW e e2),ne 0⟩
    .exact .inr (dW e e2)
 |false=>
  have h3:=h8 (by simpa using hk);simp only[qH];have i1:=iny 1 (by decide) (by omega);generalize hv:xZ (ah xs y).2.2.1 (kM (ah xs y).2.2.2.1 0) (ah xs x).2.2.1=v;have s1:=(SX.start h k).add (bf 6 0 v [] 1);have n0:aj (xs++[bf 6 0 v [] 1]) ((xs.length:Nat),0):=aj.dO.2 (.inr ⟨rfl,Int.le_refl _,show(0:Int)<1 by decide⟩)
  have s2:=s1.move (old:=(y,1)) (now:=((xs.length:Nat),0)) i1.app k.ly (by
   rintro((e|e)|e)
   .exact dI (.inl k.ne.symm) e
   .exact dI (.inr (by decide)) e
   .have:y=(xs.length:Nat):=e;omega) n0 hn (.inr rfl)
  refine s2.QG k.px.1 k.py.1 (fin _ _ _ (fun p=>by rw[aj.jf]) fun p hp=> ?_)
  have hA:p.1=(xs.length:Nat)->p=(((xs.length:Nat):Int),0):=fun e=>by
   rcases aj.dO.1 hp with q|⟨_,q2,q3⟩
   .have:=q.2.1;omega
   .have:p.2<1:=q3;exact dW e (by show p.2=0;omega)
  constructor
  .rintro⟨((e|e)|e)|e,e2⟩
   .rw[e];exact⟨k.px,.inl rfl⟩
   .rw[e];exact⟨k.py,.inr rfl⟩
   .exact absurd (hA e) e2
   .rw[e];exact⟨i1,.inr rfl⟩
  .rintro⟨q,e⟩;have ne:∀s,p≠(((xs.length:Nat):Int),s):=fun s e2=>by have:=q.2.1;rw[e2]at this;have h3:((xs.length:Nat):Int)<(xs.length:Nat):=this;omega
   refine⟨?_,ne 0⟩;obtain⟨q1,q2,q3,q4⟩:=q;rcases e with e|e
   .rw[e]at q4;have:p.2<((ah xs x).2.2.2.2.length:Nat):=q4;exact .inl (.inl (.inl (dW e (by show p.2=0;omega))))
   .rw[e]at q4;have:p.2<((ah xs y).2.2.2.2.length:Nat):=q4;have:p.2=0\/p.2=1:=by omega
    rcases this with e2|e2
    .exact .inl (.inl (.inr (dW e e2)))
    .exact .inr (dW e e2)
end
end Go.Tr
namespace Go.Tr
open Go Go.RowKit
section
variable {D:Int->Prop}{xs ys:aS}{x y:Int}
theorem pI(lab c d:Int)(xs:aS):∀k,(bF lab c d xs k).length=xs.length+k
 |0=>rfl
 |k+1=>by unfold bF xM;rw[jd,jd,qA,pI lab c d xs k];rfl
theorem mq{lab c d:Int}{xs:aS}{p:aC}(h:aj xs p):∀k,aj (bF lab c d xs k) p
 |0=>h
 |k+1=>(mq h k).app.link.link
theorem KQ{P Q:aS}{lab:Int}{n m:Nat}(hn:P.length=n+2)(hx:x<(n:Nat))(hy:y<(n:Nat))(hD:∀i,D i->i<(n:Nat))(hm:∀s:Int,0<=s->s<(m:Nat)->aj P ((n:Nat),s)/\aj P ((n+1:Nat),s))
  (h:SX D (fun p=>p=(x,0)\/p=(y,0)\/p.1=(n:Nat)\/p.1=((n+1:Nat):Int)) P Q):∀k:Nat,k+1<=m->
  SX D (fun p=>p=(x,0)\/p=(y,0)\/((p.1=(n:Nat)\/p.1=((n+1:Nat):Int))/\(p.2=0\/(k:Int)<p.2))\/(((n+2:Nat):Int)<=p.1/\p.2=0)) (bF lab ((n:Nat):Int) ((n+1:Nat):Int) P k) (bF lab ((n:Nat):Int) ((n+1:Nat):Int) Q k)
 |0,_=>h.congr fun p hp _=>by
  obtain⟨q1,q2,q3,_⟩:=hp;obtain⟨a,s⟩:=p;rw[hn]at q2;simp only[Prod.mk.injEq]at*;omega
 |k+1,hk=>by
  have ih:=KQ (lab:=lab) hn hx hy hD hm h k (by omega);have hl:(bF lab ((n:Nat):Int) ((n+1:Nat):Int) P k).length=n+2+k:=by rw[pI,hn]
  have hlq:(bF lab ((n:Nat):Int) ((n+1:Nat):Int) Q k).length=n+2+k:=by rw[<-ih.len,hl]
  have nd:∀i:Nat,n<=i->¬D (i:Nat):=fun i hi e=>by have:=hD _ e;omega
  obtain⟨hc,hd⟩:=hm ((k+1:Nat):Int) (by omega) (by omega);have hc1:=mq (lab:=lab) (c:=((n:Nat):Int)) (d:=((n+1:Nat):Int)) hc k;have hd1:=mq (lab:=lab) (c:=((n:Nat):Int)) (d:=((n+1:Nat):Int)) hd k;generalize hA:bF lab ((n:Nat):Int) ((n+1:Nat):Int) P k=A at*;generalize hB:bF lab ((n:Nat):Int) ((n+1:Nat):Int) Q k=B at*;have s1:=ih.add (bf 4 lab 0 [] 3);have f1:aj (A++[bf 4 lab 0 [] 3]) ((A.length:Nat),1):=aj.dO.2 (.inr ⟨rfl,show(0:Int)<=1 by decide,show(1:Int)<3 by decide⟩)
  have f2:aj (A++[bf 4 lab 0 [] 3]) ((A.length:Nat),2):=aj.dO.2 (.inr ⟨rfl,show(0:Int)<=2 by decide,show(2:Int)<3 by decide⟩);rw[hl]at f1 f2 s1;have s2:=s1.link (p:=((n+2+k:Nat),1)) (q:=((n:Nat),((k+1:Nat):Int))) f1 (nd _ (by omega)) (.inr rfl) hc1.app (nd _ (Nat.le_refl _)) (.inl (.inr (.inr (.inl ⟨.inl rfl,.inr (show(k:Int)<((k+1:Nat):Int) by omega)⟩)))) (dI (.inl (by omega)))
  have s3:=s2.link (p:=((n+2+k:Nat),2)) (q:=((n+1:Nat),((k+1:Nat):Int))) f2.link (nd _ (by omega)) ⟨.inr rfl,dI (.inr (by decide)),dI (.inl (by omega))⟩ hd1.app.link (nd _ (by omega))
   ⟨.inl (.inr (.inr (.inl ⟨.inr rfl,.inr (show(k:Int)<((k+1:Nat):Int) by omega)⟩))),dI (.inl (by omega)),dI (.inl (by omega))⟩ (dI (.inl (by omega)))
  have e1:bF lab ((n:Nat):Int) ((n+1:Nat):Int) P (k+1)=bD (bD (A++[bf 4 lab 0 [] 3]) ((n+2+k:Nat),1) ((n:Nat),((k+1:Nat):Int))) ((n+2+k:Nat),2) ((n+1:Nat),((k+1:Nat):Int)):=by
   rw[<-hl,<-hA];rfl
  have e2:bF lab ((n:Nat):Int) ((n+1:Nat):Int) Q (k+1)=bD (bD (B++[bf 4 lab 0 [] 3]) ((n+2+k:Nat),1) ((n:Nat),((k+1:Nat):Int))) ((n+2+k:Nat),2) ((n+1:Nat),((k+1:Nat):Int)):=by
   rw[<-hlq,<-hB];rfl
  rw[e1,e2];refine s3.congr fun p hp _=> ?_
  rw[aj.je,aj.je,aj.dO,hl]at hp
  have hp':p.1<((n+2+k:Nat):Int)\/(p.1=((n+2+k:Nat):Int)/\0<=p.2/\p.2<3):=by
   rcases hp with hp|hp
   .have:=hp.2.1;rw[hl]at this;exact .inl this
   .exact .inr hp
  have h0:0<=p.2:=by
   rcases hp with hp|hp
   .exact hp.2.2.1
   .exact hp.2.1
  obtain⟨a,s⟩:=p;simp only[Prod.mk.injEq,ne_eq]at*;omega
theorem Hu{P Q:aS}{b m:Nat}{X:aC->Prop}(hX:∀k:Nat,k<m->¬X (y,((k:Nat):Int)+1)/\X (((b+k:Nat):Int),0))(hy:aj P (y,0)/\∀k:Nat,k<m->aj P (y,((k:Nat):Int)+1)/\aj P (((b+k:Nat):Int),0))(yd:¬D y)(bd:∀k:Nat,¬D ((b+k:Nat):Int))(yb:y<(b:Nat))(h:SX D X P Q):
  ∀k:Nat,k<=m->SX D (fun p=>(X p\/(p.1=y/\1<=p.2/\p.2<=(k:Nat)))/\¬((b:Int)<=p.1/\p.1<((b+k:Nat):Int)/\p.2=0)) (cB y b P k) (cB y b Q k)
 |0,_=>h.congr fun p hp _=>by
  constructor
  .rintro⟨e|e,_⟩
   .exact e
   .omega
  .intro e;exact⟨.inl e,fun k=>by omega⟩
 |k+1,hk=>by
  have ih:=Hu hX hy yd bd yb h k (by omega);obtain⟨x1,x2⟩:=hX k (by omega);obtain⟨y1,y2⟩:=hy.2 k (by omega)
  have s1:=ih.move (old:=(y,((k:Nat):Int)+1)) (now:=(((b+k:Nat):Int),0)) (fT y1 k) yd (by
   rintro⟨e|⟨_,_,e⟩,_⟩
   .exact x1 e
   .have:((k:Nat):Int)+1<=(k:Nat):=e;omega) (fT y2 k) (bd k) ⟨.inl x2,fun e=>by have:((b+k:Nat):Int)<((b+k:Nat):Int):=e.2.1;omega⟩
  refine s1.congr fun p hp _=> ?_
  have q:(((X p\/(p.1=y/\1<=p.2/\p.2<=((k+1:Nat):Int)))/\¬((b:Int)<=p.1/\p.1<((b+(k+1):Nat):Int)/\p.2=0))↔((((X p\/(p.1=y/\1<=p.2/\p.2<=(k:Nat)))/\¬((b:Int)<=p.1/\p.1<((b+k:Nat):Int)/\p.2=0))\/p=(y,((k:Nat):Int)+1))/\p≠(((b+k:Nat):Int),0))):=by
   obtain⟨a,s⟩:=p;simp only[Prod.mk.injEq,ne_eq]
   by_cases hXp:X (a,s)
   .simp only[hXp,true_or,true_and];omega
   .simp only[hXp,false_or];omega
  exact q
theorem yJ{lab c d:Int}{xs:aS}{p:aC}(hlt:p.1.toNat<xs.length):∀{k:Nat},aj (bF lab c d xs k) p->aj xs p
 |0,h=>h
 |k+1,h=>by
  unfold bF xM at h;rw[aj.je,aj.je,aj.dO,pI]at h;rcases h with h|⟨h,_⟩
  .exact yJ hlt h
  .omega
theorem zP{y:Int}{b:Nat}{xs:aS}{p:aC}:∀k:Nat,aj (cB y b xs k) p↔aj xs p
 |0=>Iff.rfl
 |k+1=>by unfold cB;rw[aj.jf,zP k]
theorem QE{xs:aS}{y:Int}{p:aC}(hlt:p.1.toNat<xs.length)(h:aj (dup2 xs y) p):aj xs p:=by
 unfold dup2 at h;rw[aj.dO,aj.dO,qA]at h;rcases h with(h|⟨h,_⟩)|⟨h,_⟩
 .exact h
 .omega
 .simp only[qJ]at h;omega
theorem GH{xs:aS}{y:Int}{lab:Int}{p:aC}:∀k:Nat,aj (bF lab ((xs.length:Nat):Int) ((xs.length+1:Nat):Int) (dup2 xs y) k) p->0<=p.1/\p.1<((xs.length+2+k:Nat):Int)/\0<=p.2/\(p.1=(xs.length:Nat)\/p.1=((xs.length+1:Nat):Int)->p.2<((ah xs y).2.2.2.2.length:Nat))
 |0,h=>by
  have h5:aj (dup2 xs y) p:=h;obtain⟨h1,h2,h3,_⟩:=h;refine⟨h1,by(have:(bF lab ((xs.length:Nat):Int) ((xs.length+1:Nat):Int) (dup2 xs y) 0).length=xs.length+2:=iF xs y);omega,h3,fun e=> ?_⟩;unfold dup2 at h5;have hd:(lD xs y).aO.length=(ah xs y).2.2.2.2.length:=by show(List.replicate _ _).length=_;rw[List.length_replicate]
  rw[aj.dO,aj.dO,qA,qJ]at h5;rcases h5 with(h5|⟨_,_,h5⟩)|⟨_,_,h5⟩
  .have:=h5.2.1;omega
  .omega
  .omega
 |k+1,h=>by
  unfold bF xM at h;rw[aj.je,aj.je,aj.dO,pI,iF]at h;rcases h with h|⟨h1,h2,h3⟩
  .obtain⟨q1,q2,q3,q4⟩:=GH k h;exact⟨q1,by omega,q3,q4⟩
  .exact⟨by omega,by omega,h2,fun e=>by omega⟩
theorem St.duplicate(h:St D xs ys)(k:iw D xs x y)(hD:∀i,D i->i<(xs.length:Nat))(hx:(ah xs x).2.2.2.2.length=3)(hy:1<=(ah xs y).2.2.2.2.length):
  St (fun i=>D i\/i=x\/i=y) (bK xs x y) (bB (bB (bK ys x y) x) y):=by
 have ey:ah ys y=ah xs y:=(h.ag.2 y k.py.1 k.py.2.1 k.ly).symm;have ex:ah ys x=ah xs x:=(h.ag.2 x k.px.1 k.px.2.1 k.lx).symm;have hl:xs.length=ys.length:=h.ag.1;have xl:x<(xs.length:Nat):=k.px.2.1;have yl:y<(xs.length:Nat):=k.py.2.1;have x0:0<=x:=k.px.1;have y0:0<=y:=k.py.1;have hne:=k.ne;generalize hm:(ah xs y).2.2.2.2.length=m at*;generalize hn:xs.length=n at*;have nd:∀i:Nat,n<=i->¬D (i:Nat):=fun i hi e=>by have:=hD _ e;omega
 have s0:=SX.start h k
 have s2:SX D (fun p=>p=(x,0)\/p=(y,0)\/p.1=(n:Nat)\/p.1=((n+1:Nat):Int)) (dup2 xs y) (dup2 ys y):=by
  have e:lD ys y=lD xs y:=by unfold lD;rw[ey]
  unfold dup2;rw[e];refine((s0.add (lD xs y)).add (lD xs y)).congr fun p _ _=> ?_
  rw[qA,hn];simp only[qJ];constructor
  .rintro(e|e|e|e)
   .exact .inl (.inl (.inl e))
   .exact .inl (.inl (.inr e))
   .exact .inl (.inr e)
   .exact .inr e
  .rintro(((e|e)|e)|e)
   .exact .inl e
   .exact .inr (.inl e)
   .exact .inr (.inr (.inl e))
   .exact .inr (.inr (.inr e))
 have hP:(dup2 xs y).length=n+2:=by rw[iF,hn]
 have hc:∀s:Int,0<=s->s<(m:Nat)->aj (dup2 xs y) ((n:Nat),s)/\aj (dup2 xs y) ((n+1:Nat),s):=fun s h0 h1=>by
  have q1:=uX (xs:=xs) (y:=y) h0 (by rw[hm];exact h1);have q2:=uY (xs:=xs) (y:=y) h0 (by rw[hm];exact h1);rw[hn]at q1 q2;exact⟨q1,q2⟩
 have s3:=KQ (lab:=(ah xs x).2.1) hP xl yl hD hc s2 (m-1) (by omega)
 have fx:(ah (dup2 xs y) x).2.1=(ah xs x).2.1:=by
  unfold dup2;rw[bZ (by rw[qA,hn];omega),bZ (by omega)]
 have fy:(ah (dup2 ys y) x).2.1=(ah xs x).2.1:=by
  unfold dup2;rw[bZ (by rw[qA];omega),bZ (by omega),ex]
 have d3x:dup3 xs x y=bF (ah xs x).2.1 ((n:Nat):Int) ((n+1:Nat):Int) (dup2 xs y) (m-1):=by
  unfold dup3;rw[<-(mh (x:=x) (by rw[hP];omega) _).1,fx,hn,hm]
 have d3y:dup3 ys x y=bF (ah xs x).2.1 ((n:Nat):Int) ((n+1:Nat):Int) (dup2 ys y) (m-1):=by
  unfold dup3;rw[<-(mh (x:=x) (by rw[iF];omega) _).1,fy,<-hl,ey,hm]
 have hpp:=fun p=>GH (xs:=xs) (y:=y) (lab:=(ah xs x).2.1) (p:=p) (m-1)
 have hbk:∀p:aC,p.1.toNat<n->aj (bF (ah xs x).2.1 ((n:Nat):Int) ((n+1:Nat):Int) (dup2 xs y) (m-1)) p->aj xs p:=fun p hlt hp=>QE (by rw[hn];exact hlt) (yJ (by rw[hP];omega) hp)
 have hin:∀p:aC,aj xs p->aj (bF (ah xs x).2.1 ((n:Nat):Int) ((n+1:Nat):Int) (dup2 xs y) (m-1)) p:=fun p hp=>mq (pG hp) _
 have hfan:∀i:Nat,i<m-1->aj (bF (ah xs x).2.1 ((n:Nat):Int) ((n+1:Nat):Int) (dup2 xs y) (m-1)) (((n+2+i:Nat):Int),0):=fun i hi=>by
  have:=tQ (x:=x) (c:=((n:Nat):Int)) (d:=((n+1:Nat):Int)) (xs:=dup2 xs y) hi;rw[<-(mh (x:=x) (by rw[hP];omega) _).1,fx,hP]at this;exact this
 rw[hn,hm]at hpp;have hcn:=mq (lab:=(ah xs x).2.1) (c:=((n:Nat):Int)) (d:=((n+1:Nat):Int)) (hc 0 (Int.le_refl _) (by omega)).1 (m-1);have hdn:=mq (lab:=(ah xs x).2.1) (c:=((n:Nat):Int)) (d:=((n+1:Nat):Int)) (hc 0 (Int.le_refl _) (by omega)).2 (m-1);have inx:∀s:Int,0<=s->s<3->aj xs (x,s):=fun s h0 h1=>⟨k.px.1,k.px.2.1,h0,by show s<((ah xs x).2.2.2.2.length:Nat);omega⟩
 have iny:∀s:Int,0<=s->s<(m:Nat)->aj xs (y,s):=fun s h0 h1=>⟨k.py.1,k.py.2.1,h0,by show s<((ah xs y).2.2.2.2.length:Nat);rw[hm];exact h1⟩
 unfold bK mM;rw[d3x,d3y,<-hl,hn,ey,hm];generalize bF (ah xs x).2.1 ((n:Nat):Int) ((n+1:Nat):Int) (dup2 xs y) (m-1)=A at*;generalize bF (ah xs x).2.1 ((n:Nat):Int) ((n+1:Nat):Int) (dup2 ys y) (m-1)=B at*;have s4:=s3.move (old:=(x,1)) (now:=((n:Nat),0)) (hin _ (inx 1 (by decide) (by decide))) k.lx (by simp only[Prod.mk.injEq,ne_eq,and_true,true_and,or_true,true_or];omega) hcn (nd _ (Nat.le_refl _)) (.inr (.inr (.inl ⟨.inl rfl,.inl rfl⟩)));have s5:=s4.move (old:=(x,2)) (now:=((n+1:Nat),0)) (hin _ (inx 2 (by decide) (by decide))).move k.lx (by simp only[Prod.mk.injEq,ne_eq,and_true,true_and,or_true,true_or];omega) hdn.move (nd _ (by omega)) (by simp only[Prod.mk.injEq,ne_eq,and_true,true_and,or_true,true_or];omega)
 have s6:=Hu (y:=y) (b:=n+2) (m:=m-1) (fun i hi=>by simp only[Prod.mk.injEq,ne_eq,and_true,true_and,or_true,true_or];omega) ⟨(hin _ (iny 0 (Int.le_refl _) (by omega))).move.move,fun i hi=>⟨(hin _ (iny _ (by omega) (by omega))).move.move,(hfan i hi).move.move⟩⟩ k.ly (fun i=>nd _ (by omega)) (by omega) s5 (m-1) (Nat.le_refl _);refine s6.QG x0 y0 fun p hp _=> ?_
 rw[zP,aj.jf,aj.jf]at hp;obtain⟨q1,q2,q3,q4⟩:=hpp p hp
 have q5:p.1=x->p.2<3:=fun e=>by
  have:=(hbk p (by omega) hp).2.2.2;rw[e]at this;have h2:p.2<((ah xs x).2.2.2.2.length:Nat):=this;omega
 have q6:p.1=y->p.2<(m:Nat):=fun e=>by
  have:=(hbk p (by omega) hp).2.2.2;rw[e]at this;have h2:p.2<((ah xs y).2.2.2.2.length:Nat):=this;omega
 clear hpp hbk hin hfan s0 s2 s3 s4 s5 s6 hc inx iny nd;obtain⟨a,s⟩:=p;simp only[Prod.mk.injEq,ne_eq]at*;omega
end
end Go.Tr
namespace Go.Tr
open Go Go.RowKit
section
variable {D:Int->Prop}{xs ys:aS}{x y:Int}
theorem Au{zs:aS}{p:aC}(q:aC)(hp:aj xs p):aN (xs++zs) p q=aN xs p q++zs:=by
 have hl:=Ej hp;unfold aN;rw[bZ hl,List.set_append_left _ _ hl]
theorem QX{zs:aS}{p q:aC}(hp:aj xs p)(hq:aj xs q):bD (xs++zs) p q=bD xs p q++zs:=by
 unfold bD;rw[Au q hp,Au p hq.set]
theorem Nc{p q r s:aC}(hp:aj xs p)(hq:aj xs q)(hr:aj xs r)(hs:aj xs s)(pr:p≠r)(ps:p≠s)(qr:q≠r)(qs:q≠s):bD (bD xs p q) r s=bD (bD xs r s) p q:=by
 unfold bD;rw[lM hq.set hr.set qr,lM (xs:=xs) hp hr pr];rw[lM (xs:=aN (aN xs r s) p q) hq.set.set hs.set.set qs,lM (xs:=aN xs r s) hp.set hs.set ps]
theorem Q8{W:aS}{a:ak}{old now P Q:aC}(ho:aj W old)(hpe:aj W (ay W old))(hn:aj W now)(hP:aj (W++[a]) P)(hPl:(W.length:Int)<=P.1)(hQ:aj W Q)(oq:old≠Q)(pq:ay W old≠Q)(nq:now≠Q):
  bY (bD (W++[a]) P Q) old now=bD (bY W old now++[a]) P Q:=by
 have far:∀r:aC,aj W r->r≠P:=fun r hr e=>by have:=hr.2.1;rw[e]at this;omega
 have e1:ay (bD (W++[a]) P Q) old=ay W old:=by
  rw[gF hP hQ.app ho.app,if_neg (fun e=>oq e.symm),if_neg (fun e=>far old ho e.symm),jH (Ej ho)]
 unfold bY;rw[e1,Nc hP hQ.app hpe.app hn.app (fun e=>far _ hpe e.symm) (fun e=>far _ hn e.symm) (fun e=>pq e.symm) (fun e=>nq e.symm),QX hpe hn]
theorem OM{P Q:aS}{lv:Int}{n m:Nat}(hn:P.length=n+1)(xl:x<(n:Nat))(yl:y<(n:Nat))(x0:0<=x)(xy:x≠y)(xd:¬D x)(hD:∀i,D i->i<(n:Nat))(hx:∀s:Int,0<=s->s<(m:Nat)->aj P (x,s))(hr:aj P ((n:Nat),0))
  (h:SX D (fun p=>p=(x,0)\/p=(y,0)\/p.1=(n:Nat)) P Q) (h1:∀p,aj P p->p.1=(n:Nat)->p.2=0):∀k:Nat,k+1<=m->
  SX D (fun p=>(p.1=x/\p.2<=(k:Nat))\/p=(y,0)\/p=iW (n+1) k) (sZ lv x (n+1) P k) (sZ lv x (n+1) Q k)
 |0,_=>h.congr fun p hp _=>by
  have h2:=h1 p hp;obtain⟨q1,q2,q3,_⟩:=hp;unfold iW;obtain⟨a,s⟩:=p;rw[hn]at q2;simp only[Prod.mk.injEq]at*;omega
 |k+1,hk=>by
  have ih:=OM (lv:=lv) hn xl yl x0 xy xd hD hx hr h h1 k (by omega);have hl:(sZ lv x (n+1) P k).length=n+1+k:=by rw[sF,hn]
  have nd:∀i:Nat,n<=i->¬D (i:Nat):=fun i hi e=>by have:=hD _ e;omega
  have hxk:=qp (lv:=lv) (x:=x) (b:=n+1) (hx ((k+1:Nat):Int) (by omega) (by omega)) k
  have hR:aj (sZ lv x (n+1) P k) (iW (n+1) k):=by
   have:=zJ (lv:=lv) (x:=x) (xs:=P) (by rw[hn];exact hr) k;rw[hn]at this;exact this
  have hR1:(n:Int)<=(iW (n+1) k).1/\(iW (n+1) k).1<((n+1+k:Nat):Int):=by
   cases k with
   |zero=>unfold iW;simp only[];omega
   |succ k=>unfold iW;simp only[];omega
  have s1:=ih.add (bf 3 lv 0 [] 3);rw[hl]at s1;have f0:aj (sZ lv x (n+1) P k++[bf 3 lv 0 [] 3]) ((n+1+k:Nat),0):=aj.dO.2 (.inr ⟨by rw[hl],Int.le_refl _,show(0:Int)<3 by decide⟩);have f1:aj (sZ lv x (n+1) P k++[bf 3 lv 0 [] 3]) ((n+1+k:Nat),1):=aj.dO.2 (.inr ⟨by rw[hl],show(0:Int)<=1 by decide,show(1:Int)<3 by decide⟩);have hRd:¬D (iW (n+1) k).1:=fun e=>by have:=hD _ e;omega
  have s2:=s1.link (p:=iW (n+1) k) (q:=((n+1+k:Nat),0)) hR.app hRd (.inl (.inr (.inr rfl))) f0 (nd _ (by omega)) (.inr rfl) (fun e=>by rw[e]at hR1;have:=hR1.2;have h3:((n+1+k:Nat):Int)<((n+1+k:Nat):Int):=this;omega)
  have s3:=s2.move (old:=(x,((k+1:Nat):Int))) (now:=((n+1+k:Nat),1)) hxk.app.link xd (by
   rintro⟨(⟨_,e⟩|e|e)|e,_,_⟩
   .have:((k+1:Nat):Int)<=(k:Nat):=e;omega
   .exact dI (.inl xy) e
   .rw[<-e]at hR1;have:=hR1.1;have h3:(n:Int)<=x:=this;omega
   .have:x=((n+1+k:Nat):Int):=e;omega) f1.link (nd _ (by omega)) ⟨.inr rfl,fun e=>by rw[<-e]at hR1;have:=hR1.2;have h3:((n+1+k:Nat):Int)<((n+1+k:Nat):Int):=this;omega,dI (.inr (by decide))⟩
  show SX D _ (sZ lv x (n+1) P (k+1)) (sZ lv x (n+1) Q (k+1));unfold sZ;refine s3.congr fun p hp _=> ?_
  rw[aj.jf,aj.je,aj.dO,hl]at hp
  have hp':p.1<((n+1+k:Nat):Int)\/(p.1=((n+1+k:Nat):Int)/\0<=p.2/\p.2<3):=by
   rcases hp with hp|hp
   .have:=hp.2.1;rw[hl]at this;exact .inl this
   .exact .inr hp
  have e2:iW (n+1) (k+1)=(((n+1+k:Nat):Int),2):=rfl;rw[e2];obtain⟨a,s⟩:=p;generalize hRR:iW (n+1) k=R at*;obtain⟨ra,rs⟩:=R;simp only[Prod.mk.injEq,ne_eq]at*;omega
theorem SX.self{X:aC->Prop}(h:SX D X xs ys):SX D X xs xs:=⟨⟨rfl,fun _ _ _ _=>rfl⟩,h.wi,h.al⟩
theorem IV{n k:Nat}:(n:Int)<=(iW (n+1) k).1/\(iW (n+1) k).1<((n+1+k:Nat):Int)/\(iW (n+1) k).2≠1:=by
 cases k with
 |zero=>unfold iW;simp only[];omega
 |succ k=>unfold iW;simp only[];omega
theorem OJ{P Q:aS}{lv:Int}{n:Nat}(hn:P.length=n+1)(xl:x<(n:Nat))(yl:y<(n:Nat))(hD:∀i,D i->i<(n:Nat))(hr:aj P ((n:Nat),0))
  (h:SX D (fun p=>p=(x,0)\/p=(y,0)\/p.1=(n:Nat)) P Q) (h1:∀p,aj P p->p.1=(n:Nat)->p.2=0):∀k:Nat,
  SX D (fun p=>p=(x,0)\/p=(y,0)\/(((n+1:Nat):Int)<=p.1/\p.2=1)\/p=iW (n+1) k) (oL lv (n+1) P k) (oL lv (n+1) Q k)
 |0=>h.congr fun p hp _=>by
  have h2:=h1 p hp;obtain⟨q1,q2,q3,_⟩:=hp;unfold iW;obtain⟨a,s⟩:=p;rw[hn]at q2;simp only[Prod.mk.injEq]at*;omega
 |k+1=>by
  have ih:=OJ (lv:=lv) hn xl yl hD hr h h1 k;have hl:(oL lv (n+1) P k).length=n+1+k:=by rw[xI,hn]
  have nd:∀i:Nat,n<=i->¬D (i:Nat):=fun i hi e=>by have:=hD _ e;omega
  obtain⟨r1,r2,r3⟩:=IV (n:=n) (k:=k)
  have hR:aj (oL lv (n+1) P k) (iW (n+1) k):=by
   have:=Gx (lv:=lv) (xs:=P) (by rw[hn];exact hr) k;rw[hn]at this;exact this
  have s1:=ih.add (bf 3 lv 0 [] 3);rw[hl]at s1;have f0:aj (oL lv (n+1) P k++[bf 3 lv 0 [] 3]) ((n+1+k:Nat),0):=aj.dO.2 (.inr ⟨by rw[hl],Int.le_refl _,show(0:Int)<3 by decide⟩);have s2:=s1.link (p:=((n+1+k:Nat),0)) (q:=iW (n+1) k) f0 (nd _ (by omega)) (.inr rfl) hR.app (fun e=>by have:=hD _ e;omega) (.inl (.inr (.inr (.inr rfl)))) (fun e=>by rw[<-e]at r2;have h3:((n+1+k:Nat):Int)<((n+1+k:Nat):Int):=r2;omega);unfold oL;refine s2.congr fun p hp _=> ?_
  rw[aj.je,aj.dO,hl]at hp
  have hp':p.1<((n+1+k:Nat):Int)\/(p.1=((n+1+k:Nat):Int)/\0<=p.2/\p.2<3):=by
   rcases hp with hp|hp
   .have:=hp.2.1;rw[hl]at this;exact .inl this
   .exact .inr hp
  have e2:iW (n+1) (k+1)=(((n+1+k:Nat):Int),2):=rfl;rw[e2];obtain⟨a,s⟩:=p;generalize hRR:iW (n+1) k=R at*;obtain⟨ra,rs⟩:=R;simp only[Prod.mk.injEq,ne_eq]at*;omega
theorem OH{Z:aS}{n m k:Nat}(xl:x<(n:Nat))(x0:0<=x)(xy:x≠y)(xd:¬D x)(hD:∀i,D i->i<(n:Nat))(hx:∀s:Int,0<=s->s<(m:Nat)->aj Z (x,s))(hz:∀i:Nat,i<k->aj Z (((n+1+i:Nat):Int),1))(hl:Z.length=n+1+k)
  (h:SX D (fun p=>p=(x,0)\/p=(y,0)\/(((n+1:Nat):Int)<=p.1/\p.2=1)\/p=iW (n+1) k) Z Z):∀j:Nat,j<=k->j+1<=m->
  SX D (fun p=>(p.1=x/\p.2<=(j:Nat))\/p=(y,0)\/(((n+1+j:Nat):Int)<=p.1/\p.2=1)\/p=iW (n+1) k) (Ch x (n+1) Z j) (Ch x (n+1) Z j)
 |0,_,_=>h.congr fun p hp _=>by
  obtain⟨q1,q2,q3,_⟩:=hp;obtain⟨a,s⟩:=p;generalize iW (n+1) k=R;obtain⟨ra,rs⟩:=R;simp only[Prod.mk.injEq]at*;omega
 |j+1,hj,hm=>by
  have ih:=OH xl x0 xy xd hD hx hz hl h j (by omega) (by omega);obtain⟨r1,r2,r3⟩:=IV (n:=n) (k:=k);have nd:∀i:Nat,n<=i->¬D (i:Nat):=fun i hi e=>by have:=hD _ e;omega
  have s1:=ih.move (old:=(x,((j:Nat):Int)+1)) (now:=(((n+1+j:Nat):Int),1)) (mQ (hx _ (by omega) (by omega)) j) xd (by
   generalize iW (n+1) k=R at*;obtain⟨ra,rs⟩:=R;simp only[Prod.mk.injEq,ne_eq]at*;omega) (mQ (hz j (by omega)) j) (nd _ (by omega)) (.inr (.inr (.inl ⟨Int.le_refl _,rfl⟩)))
  unfold Ch;refine s1.congr fun p hp _=> ?_
  have q3:=hp.2.2.1;have q2:=hp.2.1;obtain⟨a,s⟩:=p;generalize hRR:iW (n+1) k=R at*;obtain⟨ra,rs⟩:=R;simp only[Prod.mk.injEq,ne_eq]at*;omega
theorem Yq{P:aS}{lv:Int}{n m:Nat}(hn:P.length=n+1)(xl:x<(n:Nat))(yl:y<(n:Nat))(x0:0<=x)(xy:x≠y)(xd:¬D x)(hD:∀i,D i->i<(n:Nat))(hx:∀s:Int,0<=s->s<(m:Nat)->aj P (x,s))(hr:aj P ((n:Nat),0))
  (h:SX D (fun p=>p=(x,0)\/p=(y,0)\/p.1=(n:Nat)) P P) (h1:∀p,aj P p->p.1=(n:Nat)->p.2=0):∀k:Nat,k+1<=m->Ch x (n+1) (oL lv (n+1) P k) k=sZ lv x (n+1) P k
 |0,_=>rfl
 |k+1,hk=>by
  have ih:=Yq (lv:=lv) hn xl yl x0 xy xd hD hx hr h h1 k (by omega);have hl:(oL lv (n+1) P k).length=n+1+k:=by rw[xI,hn]
  have nd:∀i:Nat,n<=i->¬D (i:Nat):=fun i hi e=>by have:=hD _ e;omega
  obtain⟨r1,r2,r3⟩:=IV (n:=n) (k:=k)
  have hR:aj (oL lv (n+1) P k) (iW (n+1) k):=by
   have:=Gx (lv:=lv) (xs:=P) (by rw[hn];exact hr) k;rw[hn]at this;exact this
  have hxN:∀s:Int,0<=s->s<(m:Nat)->aj (oL lv (n+1) P k) (x,s):=fun s a b=>DC (hx s a b) k
  have hzN:∀i:Nat,i<k->aj (oL lv (n+1) P k) (((n+1+i:Nat):Int),1):=fun i hi=>by
   have:=zI (lv:=lv) (xs:=P) (s:=1) (by decide) (by decide) hi;rw[hn]at this;exact this
  have sN:=OJ (lv:=lv) hn xl yl hD hr h h1 k
  have key:∀j:Nat,j<=k->Ch x (n+1) (bD (oL lv (n+1) P k++[bf 3 lv 0 [] 3]) ((n+1+k:Nat),0) (iW (n+1) k)) j=bD (Ch x (n+1) (oL lv (n+1) P k) j++[bf 3 lv 0 [] 3]) ((n+1+k:Nat),0) (iW (n+1) k):=by
   intro j
   induction j with
   |zero=>intro _;rfl
   |succ j ihj=>
    intro hj;have e:=ihj (by omega);have sM:=OH (k:=k) xl x0 xy xd hD hxN hzN hl sN j (by omega) (by omega);have hlW:(Ch x (n+1) (oL lv (n+1) P k) j).length=n+1+k:=by rw[OE,hl]
    show bY (Ch x (n+1) (bD (oL lv (n+1) P k++[bf 3 lv 0 [] 3]) ((n+1+k:Nat),0) (iW (n+1) k)) j) (x,((j:Nat):Int)+1) (((n+1+j:Nat):Int),1)=bD (bY (Ch x (n+1) (oL lv (n+1) P k) j) (x,((j:Nat):Int)+1) (((n+1+j:Nat):Int),1)++[bf 3 lv 0 [] 3]) _ _;rw[e];have ho:=mQ (x:=x) (b:=n+1) (hxN (((j:Nat):Int)+1) (by omega) (by omega)) j
    have hw:=sM.wi (x,((j:Nat):Int)+1) ⟨⟨ho,xd⟩,by
     generalize iW (n+1) k=R at*;obtain⟨ra,rs⟩:=R;simp only[Prod.mk.injEq]at*;omega⟩
    refine Q8 ho hw.2.1.1.1 (mQ (hzN j (by omega)) j) (aj.dO.2 (.inr ⟨by rw[hlW],Int.le_refl _,show(0:Int)<3 by decide⟩)) (by rw[hlW];exact Int.le_refl _) (mQ hR j) ?_ (fun e=>hw.2.1.2 (.inr (.inr (.inr e)))) ?_
    .intro e;rw[<-e]at r1;have:(n:Int)<=x:=r1;omega
    .intro e;rw[<-e]at r3;exact r3 rfl
  show bY (Ch x (n+1) (bD (oL lv (n+1) P k++[bf 3 lv 0 [] 3]) (((n+1+k:Nat):Int),0) (iW (n+1) k)) k) (x,((k:Nat):Int)+1) (((n+1+k:Nat):Int),1)=bY (bD (sZ lv x (n+1) P k++[bf 3 lv 0 [] 3]) (iW (n+1) k) (((n+1+k:Nat):Int),0)) (x,((k+1:Nat):Int)) (((n+1+k:Nat):Int),1);rw[key k (Nat.le_refl _),ih];have hlS:(sZ lv x (n+1) P k).length=n+1+k:=by rw[sF,hn]
  have hRS:aj (sZ lv x (n+1) P k) (iW (n+1) k):=by
   have:=zJ (lv:=lv) (x:=x) (xs:=P) (by rw[hn];exact hr) k;rw[hn]at this;exact this
  rw[vo (aj.dO.2 (.inr ⟨by rw[hlS],Int.le_refl _,show(0:Int)<3 by decide⟩)) hRS.app];rfl
theorem DF{lv:Int}{b:Nat}{P:aS}{p:aC}(hlt:p.1.toNat<P.length):∀{k:Nat},aj (sZ lv x b P k) p->aj P p
 |0,h=>h
 |k+1,h=>by
  unfold sZ at h;rw[aj.jf,aj.je,aj.dO,sF]at h;rcases h with h|⟨h,_⟩
  .exact DF hlt h
  .omega
theorem St.choose(h:St D xs ys)(k:iw D xs x y)(hD:∀i,D i->i<(xs.length:Nat))(h6:(ah xs x).1=6↔(ah xs y).1=11)(hx:(ah xs x).1=6->(ah xs x).2.2.2.2.length=1)(hx1:1<=(ah xs x).2.2.2.2.length)(hy:(ah xs y).2.2.2.2.length=2):
  St (fun i=>D i\/i=x\/i=y) (gZ xs x y) (bB (bB (eZ ys x y) x) y):=by
 have ey:ah ys y=ah xs y:=(h.ag.2 y k.py.1 k.py.2.1 k.ly).symm;have ex:ah ys x=ah xs x:=(h.ag.2 x k.px.1 k.px.2.1 k.lx).symm;have hl:xs.length=ys.length:=h.ag.1;have xl:x<(xs.length:Nat):=k.px.2.1;have yl:y<(xs.length:Nat):=k.py.2.1;have x0:0<=x:=k.px.1;have y0:0<=y:=k.py.1;have hne:=k.ne;have nd:∀i:Nat,xs.length<=i->¬D (i:Nat):=fun i hi e=>by have:=hD _ e;omega
 have iny1:aj xs (y,1):=⟨k.py.1,k.py.2.1,show(0:Int)<=1 by decide,by show(1:Int)<((ah xs y).2.2.2.2.length:Nat);omega⟩;have hkb:((ah xs x).1==6)=((ah xs y).1==11):=by rw[Bool.eq_iff_iff];simpa using h6
 have s1:∀i:Int,SX D (fun p=>p=(x,0)\/p=(y,0)\/p.1=(xs.length:Nat)) (bE xs y i) (bE ys y i):=fun i=>by
  unfold bE;rw[ey];refine((SX.start h k).add _).congr fun p _ _=> ?_
  constructor
  .rintro(e|e|e)
   .exact .inl (.inl e)
   .exact .inl (.inr e)
   .exact .inr e
  .rintro((e|e)|e)
   .exact .inl e
   .exact .inr (.inl e)
   .exact .inr (.inr e)
 have hlen:∀i:Int,(bE xs y i).length=xs.length+1:=fun i=>by unfold bE;rw[qA];rfl
 have hnew:∀i:Int,aj (bE xs y i) ((xs.length:Nat),0):=fun i=>aj.dO.2 (.inr ⟨rfl,Int.le_refl _,show(0:Int)<1 by decide⟩)
 have h1:∀(i:Int) p,aj (bE xs y i) p->p.1=(xs.length:Nat)->p.2=0:=fun i p hp e=>by
  rcases aj.dO.1 hp with q|⟨_,q2,q3⟩
  .have:=q.2.1;omega
  .have:p.2<1:=q3;omega
 have hback:∀(i:Int) (p:aC),p.1.toNat<xs.length->aj (bE xs y i) p->aj xs p:=fun i p hlt hp=>by
  rcases aj.dO.1 hp with q|⟨q,_⟩
  .exact q
  .omega
 have hin:∀(i:Int) (p:aC),aj xs p->aj (bE xs y i) p:=fun i p hp=>hp.app
 unfold gZ eZ;rw[ex,ey,hkb,<-hl];cases hk:(ah xs y).1==11 with
 |true=>
  simp only[qG];have h3:=hx (h6.2 (by simpa using hk));generalize (bif (ah xs x).2.2.1==0 then(1:Int)else 0)=i;have s2:=(s1 i).move (old:=(y,1)) (now:=((xs.length:Nat),0)) (hin i _ iny1) k.ly (by simp only[Prod.mk.injEq];omega) (hnew i) (nd _ (Nat.le_refl _)) (.inr (.inr rfl));refine s2.QG x0 y0 fun p hp _=> ?_
  rw[aj.jf]at hp;have q0:=h1 i p hp;have q1:=hp.2.2.1;have q2:=hp.1
  have q4:p.1=x->p.2<1:=fun e=>by
   have:=(hback i p (by omega) hp).2.2.2;rw[e]at this;have h2:p.2<((ah xs x).2.2.2.2.length:Nat):=this;omega
  have q5:p.1=y->p.2<2:=fun e=>by
   have:=(hback i p (by omega) hp).2.2.2;rw[e]at this;have h2:p.2<((ah xs y).2.2.2.2.length:Nat):=this;omega
  obtain⟨a,s⟩:=p;simp only[Prod.mk.injEq,ne_eq]at*;omega
 |false=>
  simp only[qH];generalize (ah xs x).2.2.1=i;generalize (ah xs y).2.1=lv;have hxi:∀s:Int,0<=s->s<((ah xs x).2.2.2.2.length:Nat)->aj (bE xs y i) (x,s):=fun s a b=>hin i _ ⟨x0,xl,a,b⟩
  rw[Yq (lv:=lv) (hlen i) xl yl x0 k.ne k.lx hD hxi (hnew i) (s1 i).self (h1 i) ((ah xs x).2.2.2.2.length-1) (by omega)];have s2:=OM (lv:=lv) (hlen i) xl yl x0 k.ne k.lx hD hxi (hnew i) (s1 i) (h1 i) ((ah xs x).2.2.2.2.length-1) (by omega);generalize hm:(ah xs x).2.2.2.2.length=m at*;obtain⟨r1,r2,r3⟩:=IV (n:=xs.length) (k:=m-1)
  have hR:aj (sZ lv x (xs.length+1) (bE xs y i) (m-1)) (iW (xs.length+1) (m-1)):=by
   have:=zJ (lv:=lv) (x:=x) (xs:=bE xs y i) (by rw[hlen];exact hnew i) (m-1);rw[hlen]at this;exact this
  have s3:=s2.move (old:=(y,1)) (now:=iW (xs.length+1) (m-1)) (qp (hin i _ iny1) _) k.ly (by
   generalize iW (xs.length+1) (m-1)=R at*;obtain⟨ra,rs⟩:=R;simp only[Prod.mk.injEq]at*;omega) hR (fun e=>by have:=hD _ e;omega) (.inr (.inr rfl))
  refine s3.QG x0 y0 fun p hp _=> ?_
  rw[aj.jf]at hp;have q1:=hp.2.2.1;have q2:=hp.1
  have q4:p.1=x->p.2<(m:Nat):=fun e=>by
   have:=(hback i p (by omega) (DF (by rw[hlen];omega) hp)).2.2.2;rw[e]at this;have h2:p.2<((ah xs x).2.2.2.2.length:Nat):=this;omega
  have q5:p.1=y->p.2<2:=fun e=>by
   have:=(hback i p (by omega) (DF (by rw[hlen];omega) hp)).2.2.2;rw[e]at this;have h2:p.2<((ah xs y).2.2.2.2.length:Nat):=this;omega
  generalize iW (xs.length+1) (m-1)=R at*;obtain⟨ra,rs⟩:=R;obtain⟨a,s⟩:=p;clear h1 hback hin hxi s1 s2 s3 hnew hlen nd;simp only[Prod.mk.injEq,ne_eq]at*;omega
end
end Go.Tr
namespace Go.Tr
open Go Go.RowKit
section
variable {D:Int->Prop}{X:aC->Prop}{xs ys:aS}{x y:Int}
theorem qm{t:aS}{b i:Int}(hb:b=(xs.length:Int)-1)(h1:(xs.length:Int)<=i)(h2:i-b<(t.length:Nat)):ah (xs++(t.drop 1).map (bP b)) i=bP b (ah t (i-b)):=by
 unfold ah elt;rw[qC,qL (by omega),qY,List.getElem?_drop];have e:1+(i.toNat-xs.length)=(i-b).toNat:=by omega
 rw[e,qC,qB (by omega)];rfl
theorem mG(t:aS)(b:Int):((t.drop 1).map (bP b)).length=t.length-1:=by rw[qV,List.length_drop]
theorem aj.jG{t:aS}{b:Int}{p:aC}(hb:b=(xs.length:Int)-1):aj (xs++(t.drop 1).map (bP b)) p↔aj xs p\/((xs.length:Int)<=p.1/\aj t (p.1-b,p.2)):=by
 have hml:=mG t b;have hpl:∀a:ak,(bP b a).aO.length=a.aO.length:=fun a=>by show(List.map _ _).length=_;rw[qV]
 constructor
 .intro h;have h':=h;obtain⟨h1,h2,h3,h4⟩:=h;rw[qA,hml]at h2
  by_cases hl:p.1.toNat<xs.length
  .rw[bZ hl]at h4;exact .inl ⟨h1,by omega,h3,h4⟩
  .have hlt:p.1-b<(t.length:Nat):=by omega
   rw[qm hb (by omega) hlt,hpl]at h4;exact .inr ⟨by omega,by show 0<=p.1-b;omega,hlt,h3,h4⟩
 .rintro(h|⟨h,h1,h2,h3,h4⟩)
  .exact h.app
  .have h2':p.1-b<(t.length:Nat):=h2;refine⟨by omega,by rw[qA,hml];omega,h3,?_⟩;rw[qm hb h h2',hpl];exact h4
theorem sO{t:aS}{b:Int}{p:aC}(hb:b=(xs.length:Int)-1)(h:(xs.length:Int)<=p.1)(hp:aj t (p.1-b,p.2)):ay (xs++(t.drop 1).map (bP b)) p=((ay t (p.1-b,p.2)).1+b,(ay t (p.1-b,p.2)).2):=by
 obtain⟨h1,h2,h3,h4⟩:=hp;unfold ay;rw[qm hb h h2];show elt (dflt aK) (List.map _ _) p.2=_;unfold elt
 have h4':p.2.toNat<(ah t (p.1-b)).aO.length:=by
  have h5:p.2<((ah t (p.1-b)).aO.length:Nat):=h4;have h6:0<=p.2:=h3;omega
 rw[qC,qY,qB h4'];show _=(((ah t (p.1-b)).aO.getD p.2.toNat (dflt aK)).1+b,((ah t (p.1-b)).aO.getD p.2.toNat (dflt aK)).2);rw[qC,qB h4'];rfl
theorem SX.VO{t:aS}{b:Int}(hb:b=(xs.length:Int)-1)(ht:gL (fun p=>aj t p) t)(h0:aj t (0,0))(h00:∀p,aj t p->p.1=0->p=(0,0))(hD:∀i,D i->i<(xs.length:Nat))(hX:∀p,X p->p.1<(xs.length:Nat))(h:SX D X xs ys):
  SX D (fun p=>X p\/p=((ay t (0,0)).1+b,(ay t (0,0)).2)) (xs++(t.drop 1).map (bP b)) (ys++(t.drop 1).map (bP b)):=by
 obtain⟨r1,r2,r3,r4⟩:=ht (0,0) h0;have rR:aj t (ay t (0,0)):=r2
 have rpos:1<=(ay t (0,0)).1:=by
  have h1:=rR.1
  by_cases e:(ay t (0,0)).1=0
  .exact absurd (h00 _ rR e) r4
  .omega
 refine⟨h.ag.app _,fun p hp=> ?_,fun p hp=>hp.1.2⟩;obtain⟨⟨p1,p2⟩,p3⟩:=hp;rcases(aj.jG hb).1 p1 with q|⟨q1,q2⟩
 .obtain⟨w1,w2,w3,w4⟩:=h.wi p ⟨⟨q,p2⟩,fun k=>p3 (.inl k)⟩;have e:=jH (ys:=(t.drop 1).map (bP b)) (Ej q);refine⟨p1,?_,by rw[e,jH (Ej w2.1.1),w3],by rw[e];exact w4⟩;rw[e];refine⟨⟨w2.1.1.app,w2.1.2⟩,fun k=> ?_⟩;rcases k with k|k
  .exact w2.2 k
  .have:=w2.1.1.2.1;rw[k]at this;have h2:(ay t (0,0)).1+b<(xs.length:Nat):=this;omega
 .obtain⟨w1,w2,w3,w4⟩:=ht _ q2;have w2':aj t (ay t (p.1-b,p.2)):=w2;have e:=sO hb q1 q2
  have hne:(ay t (p.1-b,p.2)).1≠0:=fun e0=>by
   have e1:=h00 _ w2' e0;rw[e1]at w3;exact p3 (.inr (dW (by rw[w3];show p.1=p.1-b+b;omega) (by rw[w3])))
  have hge:1<=(ay t (p.1-b,p.2)).1:=by have:=w2'.1;omega
  have hin:aj (xs++(t.drop 1).map (bP b)) ((ay t (p.1-b,p.2)).1+b,(ay t (p.1-b,p.2)).2):=(aj.jG hb).2 (.inr ⟨by show(xs.length:Int)<=(ay t (p.1-b,p.2)).1+b;omega,by
   rw[show(((ay t (p.1-b,p.2)).1+b,(ay t (p.1-b,p.2)).2):aC).1-b=(ay t (p.1-b,p.2)).1 by show(ay t (p.1-b,p.2)).1+b-b=_;omega];exact w2'⟩)
  refine⟨p1,?_,?_,?_⟩
  .rw[e];refine⟨⟨hin,fun k=> ?_⟩,fun k=> ?_⟩
   .have:=hD _ k;have h2:(ay t (p.1-b,p.2)).1+b<(xs.length:Nat):=this;omega
   .rcases k with k|k
    .have:=hX _ k;have h2:(ay t (p.1-b,p.2)).1+b<(xs.length:Nat):=this;omega
    .have e2:ay t (p.1-b,p.2)=ay t (0,0):=by
      injection k with k1 k2
      exact dW (by omega) k2
     rw[e2,r3]at w3;injection w3 with w5 w6
     omega
  .rw[e,sO hb (by show(xs.length:Int)<=(ay t (p.1-b,p.2)).1+b;omega) (by
    rw[show(((ay t (p.1-b,p.2)).1+b,(ay t (p.1-b,p.2)).2):aC).1-b=(ay t (p.1-b,p.2)).1 by show(ay t (p.1-b,p.2)).1+b-b=_;omega];exact w2')]
   have e3:((((ay t (p.1-b,p.2)).1+b,(ay t (p.1-b,p.2)).2):aC).1-b,(((ay t (p.1-b,p.2)).1+b,(ay t (p.1-b,p.2)).2):aC).2)=ay t (p.1-b,p.2):=dW (by show(ay t (p.1-b,p.2)).1+b-b=_;omega) rfl;rw[e3,w3];exact dW (by show p.1-b+b=p.1;omega) rfl
  .rw[e];intro k;refine w4 (dW ?_ ?_)
   .have:=congrArg Prod.fst k;show(ay t (p.1-b,p.2)).1=p.1-b;have h2:(ay t (p.1-b,p.2)).1+b=p.1:=this;omega
   .have h2:=congrArg Prod.snd k;exact h2
theorem pV(lv:Int)(a:ak):(jy lv a).aO=a.aO:=by unfold jy;cases bX a.kind<;>rfl
theorem uR(lv:Int)(t:aS){i:Int}(h0:0<=i)(h1:i<(t.length:Nat)):ah (bU lv t) i=jy lv (ah t i):=by
 unfold ah elt bU;rw[qC,qY,qC,qB (by omega)];rfl
theorem lZ(lv:Int)(t:aS):(bU lv t).length=t.length:=by unfold bU;rw[qV]
theorem aj.gV{lv:Int}{t:aS}{p:aC}:aj (bU lv t) p↔aj t p:=by
 unfold aj;rw[lZ];constructor
 .rintro⟨h1,h2,h3,h4⟩;rw[uR lv t h1 h2,pV]at h4;exact⟨h1,h2,h3,h4⟩
 .rintro⟨h1,h2,h3,h4⟩;refine⟨h1,h2,h3,?_⟩;rw[uR lv t h1 h2,pV];exact h4
theorem oH{lv:Int}{t:aS}{p:aC}(hp:aj t p):ay (bU lv t) p=ay t p:=by
 unfold ay;rw[uR lv t hp.1 hp.2.1,pV]
theorem gL.shift{lv:Int}{t:aS}(h:gL (fun p=>aj t p) t):gL (fun p=>aj (bU lv t) p) (bU lv t):=fun p hp=>by
 have hp':=aj.gV.1 hp;obtain⟨h1,h2,h3,h4⟩:=h p hp';rw[oH hp'];exact⟨hp,aj.gV.2 h2,by rw[oH h2,h3],h4⟩
theorem St.expand{bk:iQ}(h:St D xs ys)(k:iw D xs x y)(hD:∀i,D i->i<(xs.length:Nat))(hx:(ah xs x).2.2.2.2.length=1)
  (ht:gL (fun p=>aj (bG bk (ah xs x).2.2.1) p) (bG bk (ah xs x).2.2.1)) (h0:aj (bG bk (ah xs x).2.2.1) (0,0)) (h00:∀p,aj (bG bk (ah xs x).2.2.1) p->p.1=0->p=(0,0)):
  St (fun i=>D i\/i=x) (jO bk xs x y) (bB (iG (bG bk (ah ys x).2.2.1) (ah ys x).2.1 ys y) x):=by
 have ex:ah ys x=ah xs x:=(h.ag.2 x k.px.1 k.px.2.1 k.lx).symm;have hl:xs.length=ys.length:=h.ag.1;have xl:x<(xs.length:Nat):=k.px.2.1;have yl:y<(xs.length:Nat):=k.py.2.1;have hne:=k.ne;rw[ex];unfold jO iG mJ;generalize bG bk (ah xs x).2.2.1=t at*;generalize (ah xs x).2.1=lv;generalize hb:(xs.length:Int)-1=b;have hb':b=(xs.length:Int)-1:=hb.symm
 have e1:oC lv ((ys.length:Int)-1) t (t.length-1)=((bU lv t).drop 1).map (bP b):=by
  unfold oC;rw[<-hl,hb,qN (by rw[List.length_drop,lZ];exact Nat.le_refl _)]
 have s0:=SX.start h k;have s1:=s0.VO (t:=bU lv t) hb' ht.shift (aj.gV.2 h0) (fun p hp e=>h00 p (aj.gV.1 hp) e) hD (fun p hp=>by rcases hp with e|e<;>rw[e]<;>assumption);rw[e1,oH h0]at*;obtain⟨r1,r2,r3,r4⟩:=ht (0,0) h0;have rR:aj t (ay t (0,0)):=r2
 have rpos:1<=(ay t (0,0)).1:=by
  have h1:=rR.1
  by_cases e:(ay t (0,0)).1=0
  .exact absurd (h00 _ rR e) r4
  .omega
 generalize ay t (0,0)=R at*
 have hR:aj (xs++((bU lv t).drop 1).map (bP b)) (R.1+b,R.2):=(aj.jG hb').2 (.inr ⟨by show(xs.length:Int)<=R.1+b;omega,aj.gV.2 (by
  rw[show((R.1+b,R.2):aC).1-b=R.1 by show R.1+b-b=R.1;omega];exact rR)⟩)
 have s2:=s1.link (p:=(y,0)) (q:=(R.1+b,R.2)) k.py.app k.ly (.inl (.inr rfl)) hR (fun e=>by have:=hD _ e;have h2:R.1+b<(xs.length:Nat):=this;omega) (.inr rfl) (dI (.inl (by omega)))
 have e2:bD (ys++((bU lv t).drop 1).map (bP b)) ((ys.length:Int)-1+R.1,R.2) (y,0)=bD (ys++((bU lv t).drop 1).map (bP b)) (y,0) (R.1+b,R.2):=by
  rw[<-hl,hb,show b+R.1=R.1+b by omega];refine vo ?_ ?_
  .have:=(s1.ag.port hR (fun e=>by have:=hD _ e;have h2:R.1+b<(xs.length:Nat):=this;omega)).1;exact this
  .exact(s1.ag.port (p:=(y,0)) k.py.app k.ly).1
 rw[e2];refine s2.end1 k.px.1 fun p hp _=> ?_
 rw[aj.je]at hp;constructor
 .rintro⟨(e|e)|e,e3,e4⟩
  .rw[e]
  .exact absurd e e3
  .exact absurd e e4
 .intro e;rcases(aj.jG hb').1 hp with q|⟨q,_⟩
  .obtain⟨q1,q2,q3,q4⟩:=q;rw[e]at q4;have h3:p.2<((ah xs x).2.2.2.2.length:Nat):=q4;refine⟨.inl (.inl (dW e (by show p.2=0;omega))),fun e2=> ?_,fun e2=> ?_⟩
   .rw[e2]at e;exact hne e.symm
   .rw[e2]at e;have h4:R.1+b=x:=e;omega
  .omega
end
end Go.Tr
namespace Go.Tr
open Go Go.RowKit
def gA(a:ak):aH:=⟨a.1,a.2.1,a.2.2.1,a.2.2.2.1,a.2.2.2.2.map fun p=>⟨p.1,p.2⟩⟩
theorem KG(l:List Int):List.flatMap (enc (.int .i64)) l=l.flatMap dJ:=by
 induction l with
 |nil=>rfl
 |cons x l ih=>rw[qU,qU,ih];rfl
theorem QF(l:List aC):(l.map fun p=>(⟨p.1,p.2⟩:aU)).flatMap aU.enc=List.flatMap (enc aK) l:=by
 induction l with
 |nil=>rfl
 |cons x l ih=>rw[List.map_cons,qU,qU,ih];rfl
theorem Zv(a:ak):(gA a).enc=enc aD a:=by
 show[_,_,_,D.sl _ _,D.sl _ _]=[_]++([_]++([_]++([_]++[_])));simp only[List.cons_append,List.nil_append,gA];rw[QF,<-KG,qV]
def j6{α:Type}(g:α->Bool):List α->Int->Int
 |[],_=> -1
 |x::l,k=>bif g x then k else j6 g l (k+1)
theorem KW{α:Type}(g:α->Bool):∀(l:List α) (k:Int),0<=k->decide (0<=j6 g l k)=l.any g
 |[],k,_=>rfl
 |x::l,k,h=>by
  unfold j6;rw[List.any_cons];cases hg:g x with
  |true=>simpa using h
  |false=>simpa using KW g l (k+1) (by omega)
theorem Ce(n:Nat)(f:Nat->Bool):eD (n+1) f=(eD n f&&f n):=by simp[eD,List.range_succ]
def Wf(a:ak):Prop:=gD (gA a)=true
theorem eG{a:ak}(h:Wf a):dz a.1 a.2.1=true/\fQ (gA a)=true/\(a.2.2.2.2.length:Int)=bS a.1 (dP a.1 a.2.2.2.2.length)/\0<a.2.2.2.2.length:=by
 unfold Wf gD at h;simp only[qD,qQ,beq_iff_eq]at h;obtain⟨⟨⟨h1,h2⟩,h3⟩,h4⟩:=h;have e:((gA a).aO.length:Int)=(a.2.2.2.2.length:Int):=by simp[gA]
 have e2:fieldsOf (gA a)=dP a.1 a.2.2.2.2.length:=by unfold fieldsOf;rw[e];rfl
 rw[e,e2]at h2;rw[e2]at h1;exact⟨h3,h4,h2,by(have:0<bS a.1 (dP a.1 a.2.2.2.2.length):=h1);omega⟩
theorem AJ{a:ak}(h:Wf a):1<=a.1/\a.1<=12:=by
 have:=(eG h).1;unfold dz oG at this;simp only[qD]at this;exact iU this.1
theorem fG{a:ak}(h:Wf a):(a.1=1\/a.1=5\/a.1=6\/a.1=12->a.2.2.2.2.length=1)/\(a.1=8\/a.1=10\/a.1=11->a.2.2.2.2.length=2)/\(a.1=2\/a.1=3\/a.1=4\/a.1=7->a.2.2.2.2.length=3)/\(a.1=9->1<=a.2.2.2.2.length/\a.2.2.2.2.length<=4):=by
 obtain⟨_,_,h3,h4⟩:=eG h;have hf:∀k:Int,k≠9->dP k a.2.2.2.2.length=0:=fun k hk=>by unfold dP;rw[if_neg (by simpa using hk)]
 refine⟨fun e=> ?_,fun e=> ?_,fun e=> ?_,fun e=> ?_⟩
 .have k9:a.1≠9:=by omega
  rw[hf _ k9]at h3;unfold bS at h3;rw[if_neg k9,if_pos rfl,if_pos e]at h3;omega
 .have k9:a.1≠9:=by omega
  rw[hf _ k9]at h3;unfold bS at h3;rw[if_neg k9,if_pos rfl,if_neg (by omega),if_pos e]at h3;omega
 .have k9:a.1≠9:=by omega
  rw[hf _ k9]at h3;unfold bS at h3;rw[if_neg k9,if_pos rfl,if_neg (by omega),if_neg (by omega),if_pos e]at h3;omega
 .rw[e]at h3;unfold bS dP at h3;simp only[beq_self_eq_true,if_true]at h3
  by_cases hb:gG ((a.2.2.2.2.length:Int)-1) 0 3=true
  .have:=iU hb;omega
  .rw[if_neg hb]at h3;omega
theorem eP{ka la kb lb c:Int}(h:rule ka la kb lb=c)(h0:c≠0):
  (c=1->ka=2/\kb=3)/\(c=2->ka=4/\kb=4)/\(c=3->ka=4)/\(c=4->ka=5)/\(c=5->ka=6/\(kb=7\/kb=8))/\(c=6->(ka=6/\kb=11)\/(ka=9/\kb=10))/\(c=7->ka=12/\(kb=3\/kb=7\/kb=8\/kb=10\/kb=11)):=by
 unfold rule at h;split at h
 .subst h;simp_all
 split at h
 .split at h
  .rename_i h1;simp only[qD,beq_iff_eq]at h1;subst h;simp_all
  .split at h
   .subst h;simp_all
   .omega
 split at h
 .split at h
  .rename_i h1;simp only[qD,beq_iff_eq]at h1;subst h;simp_all
  .omega
 split at h
 .split at h
  .rename_i h1;simp only[Bool.or_eq_true,beq_iff_eq]at h1;subst h;simp_all
  .split at h
   .rename_i h1;simp only[beq_iff_eq]at h1;subst h;simp_all
   .omega
 split at h
 .split at h
  .rename_i h1;simp only[beq_iff_eq]at h1;subst h;simp_all
  .omega
 split at h
 .split at h
  .rename_i h1;unfold oW at h1;simp only[Bool.or_eq_true,beq_iff_eq]at h1;subst h;refine⟨by simp,by simp,by simp,by simp,by simp,by simp,fun _=>⟨by assumption,by omega⟩⟩
  .omega
 .omega
theorem EM(ka la kb lb:Int):(aP ka la kb lb=2->rule kb lb ka la=aT ka la kb lb/\aT ka la kb lb≠0)/\(aP ka la kb lb=1->rule ka la kb lb=aT ka la kb lb/\aT ka la kb lb≠0)/\(aP ka la kb lb=0\/aP ka la kb lb=1\/aP ka la kb lb=2):=by
 unfold aP aT;cases lJ ka la kb lb with
 |false=>simp
 |true=>
  simp only[if_true]
  by_cases h1:rule ka la kb lb=0<;>by_cases h2:rule kb lb ka la=0<;>simp[h1,h2]
theorem M4{xs:aS}{a b:Int}(hc:1<=aT (ah xs a).1 (ah xs a).2.1 (ah xs b).1 (ah xs b).2.1/\aT (ah xs a).1 (ah xs a).2.1 (ah xs b).1 (ah xs b).2.1<=7):
  rule (ah xs (au xs a b).1).1 (ah xs (au xs a b).1).2.1 (ah xs (au xs a b).2).1 (ah xs (au xs a b).2).2.1=aT (ah xs a).1 (ah xs a).2.1 (ah xs b).1 (ah xs b).2.1:=by
 obtain⟨h2,h1,h3⟩:=EM (ah xs a).1 (ah xs a).2.1 (ah xs b).1 (ah xs b).2.1;unfold au;rcases h3 with e|e|e
 .exfalso;unfold aP at e;unfold aT at hc;cases hp:lJ (ah xs a).1 (ah xs a).2.1 (ah xs b).1 (ah xs b).2.1 with
  |false=>rw[hp]at hc;simp at hc
  |true=>
   rw[hp]at e hc;simp only[if_true]at e hc;split at e
   .rename_i r1;rw[if_pos r1]at hc;split at e
    .rename_i r2;rw[if_pos r2]at hc;omega
    .omega
   .omega
 .rw[e];exact(h1 e).1
 .rw[e];exact(h2 e).1
def sig(a:ak):Int×Int×Int×List Int×Nat:=(a.1,a.2.1,a.2.2.1,a.2.2.2.1,a.2.2.2.2.length)
theorem FV{a b:ak}(h:sig a=sig b):Wf a↔Wf b:=by
 unfold sig at h;simp only[Prod.mk.injEq]at h;obtain⟨h1,h2,h3,h4,h5⟩:=h
 have e:gD (gA a)=gD (gA b):=by
  unfold gD fieldsOf fQ gA;simp only[qV,h1,h2,h3,h4,h5]
 unfold Wf;rw[e]
def eB(xs ys:List ak):Prop:=xs.length=ys.length/\∀i:Int,0<=i->i<(xs.length:Nat)->sig (ah xs i)=sig (ah ys i)
theorem eB.refl(xs:aS):eB xs xs:=⟨rfl,fun _ _ _=>rfl⟩
theorem eB.setPort{xs ys:aS}(h:eB xs ys)(p q:aC):eB (aN xs p q) ys:=by
 refine⟨by rw[cO];exact h.1,fun i h0 h1=> ?_⟩;rw[cO]at h1;rw[<-h.2 i h0 h1,d9];split
 .rename_i e;rw[zC (xs:=xs) e.1];unfold sig;simp only[List.length_set,ak.aO]
 .rfl
theorem eB.link{xs ys:aS}(h:eB xs ys)(p q:aC):eB (bD xs p q) ys:=(h.setPort p q).setPort q p
theorem eB.move{xs ys:aS}(h:eB xs ys)(p q:aC):eB (bY xs p q) ys:=h.link _ _
theorem eB.join{xs ys:aS}(h:eB xs ys)(p q:aC):eB (bg xs p q) ys:=by
 unfold bg;cases ((ay xs p).1==q.1&&(ay xs p).2==q.2)with
 |true=>exact h
 |false=>exact h.link _ _
theorem eB.app{xs ys:aS}(h:eB xs ys)(zs:aS):eB (xs++zs) (ys++zs):=by
 refine⟨by rw[qA,qA,h.1],fun i h0 h1=> ?_⟩;rw[qA]at h1
 by_cases hl:i<(xs.length:Nat)
 .rw[bZ (by omega),bZ (by rw[<-h.1];omega)];exact h.2 i h0 hl
 .have:∀ws:List ak,ws.length=xs.length->ah (ws++zs) i=zs.getD (i.toNat-xs.length) (dflt aD):=fun ws hw=>by
   unfold ah elt;rw[qC,qL (by omega),hw,qC]
  rw[this xs rfl,this ys h.1.symm]
theorem OY(y:Int)(xs:aS):∀k,eB (sG y xs k) (xs++List.replicate k (bf 5 0 0 [] 1))
 |0=>by rw[List.replicate_zero,qS];exact eB.refl _
 |k+1=>by
  unfold sG;rw[List.replicate_succ',<-qF];exact((OY y xs k).app _).move _ _
theorem KP(lab c d:Int)(P:aS):∀k,eB (bF lab c d P k) (P++List.replicate k (bf 4 lab 0 [] 3))
 |0=>by rw[List.replicate_zero,qS];exact eB.refl _
 |k+1=>by
  unfold bF xM;rw[List.replicate_succ',<-qF];exact(((KP lab c d P k).app _).link _ _).link _ _
theorem Ht{y:Int}{b:Nat}{P Q:aS}(h:eB P Q):∀k,eB (cB y b P k) Q
 |0=>h
 |k+1=>(Ht h k).move _ _
theorem Zaq:Wf (bf 5 0 0 [] 1):=by unfold Wf;decide
theorem Qv{k l:Int}(h:dz k l=true):l=0\/(0<=l/\l<=8):=by
 unfold dz at h;simp only[qD,Bool.or_eq_true,beq_iff_eq]at h;rcases h.2 with h|h
 .exact .inl h
 .exact .inr (iU h.2)
theorem zF{k l:Int}(hk:k=3\/k=4\/k=8\/k=12)(h:l=0\/(0<=l/\l<=8)):dz k l=true:=by
 have h1:oG k=true:=Ju (by omega) (by omega)
 have h2:bX k=true:=by
  unfold bX;rw[h1];rcases hk with rfl|rfl|rfl|rfl<;>decide
 unfold dz;rw[h1,h2];rcases h with rfl|h
 .rfl
 .rw[show y5 l=true from Ju h.1 h.2];simp
theorem Ml{k lv v:Int}{d:List Int}{n:Nat}(h1:dz k lv=true)(h2:fQ (gA (bf k lv v d n))=true)(h3:(n:Int)=bS k (dP k n))(h4:0<n):Wf (bf k lv v d n):=by
 unfold Wf gD;have e:((gA (bf k lv v d n)).aO.length:Int)=(n:Int):=by simp[gA,bf]
 have e2:fieldsOf (gA (bf k lv v d n))=dP k n:=by unfold fieldsOf;rw[e];rfl
 rw[e2,e];show(decide (0<bS k (dP k n))&&(n:Int)==bS k (dP k n)&&dz k lv&&fQ (gA (bf k lv v d n)))=true;rw[<-h3,h1,h2];simp only[beq_self_eq_true,Bool.and_true,qQ];omega
theorem Zar{lv:Int}(h:lv=0\/(0<=lv/\lv<=8)):Wf (bf 4 lv 0 [] 3):=Ml (zF (by omega) h) rfl rfl (by decide)
theorem Zap{lv:Int}(h:lv=0\/(0<=lv/\lv<=8)):Wf (bf 3 lv 0 [] 3):=Ml (zF (by omega) h) rfl rfl (by decide)
theorem V6{lv v:Int}(h:lv=0\/(0<=lv/\lv<=8))(hv:jU v=true):Wf (bf 12 lv v [] 1):=Ml (zF (by omega) h) (by show((((0:Nat):Int)==0)&&jU v)=true;rw[hv];rfl) rfl (by decide)
theorem Zas{v:Int}(hv:rD v=true):Wf (bf 6 0 v [] 1):=Ml (by decide) (by show((((0:Nat):Int)==0)&&rD v)=true;rw[hv];rfl) rfl (by decide)
theorem Zat{lv v w:Int}(h:lv=0\/(0<=lv/\lv<=8))(hv:kW v=true)(hw:rD w=true):Wf (bf 8 lv v [w] 2):=Ml (zF (by omega) h) (by show(((((1:Nat):Int)==1)&&kW v)&&rD (iy [w] 0))=true;rw[hv,show iy [w] 0=w from rfl,hw];rfl) rfl (by decide)
theorem Qq{a:ak}(h:Wf a):Wf (bf a.1 a.2.1 a.2.2.1 a.2.2.2.1 a.2.2.2.2.length):=(FV (by unfold sig bf;simp)).2 h
theorem xE{a:ak}(h:Wf a):a.2.1=0\/(0<=a.2.1/\a.2.1<=8):=Qv (eG h).1
theorem V4{a:ak}(h:Wf a)(k:a.1=6):rD a.2.2.1=true:=by
 have:=(eG h).2.1;unfold fQ gA at this;simp only[k,beq_self_eq_true,if_true,qD]at this;exact this.2
theorem Yj{a:ak}(h:Wf a)(k:a.1=7):kW a.2.2.1=true:=by
 have:=(eG h).2.1;unfold fQ gA at this;simp only[k]at this;simp at this;exact this.2
theorem V5{a:ak}(h:Wf a)(k:a.1=8):a.2.2.2.1.length=1/\kW a.2.2.1=true/\rD (iy a.2.2.2.1 0)=true:=by
 have:=(eG h).2.1;unfold fQ gA at this;simp only[k]at this;simp at this;exact⟨by omega,this.1.2,this.2⟩
theorem OQ{l:List Int}(h:kV l=true){i:Int}(h0:0<=i)(h1:i<(l.length:Nat)):jU (kM l i)=true:=by
 unfold kV eD at h;rw[List.all_eq_true]at h;have:=h i.toNat (List.mem_range.2 (by omega));exact this
theorem V3{a:ak}(h:Wf a)(k:a.1=10):1<=a.2.2.2.1.length/\a.2.2.2.1.length<=4/\kV a.2.2.2.1=true:=by
 have:=(eG h).2.1;unfold fQ gA at this;simp only[k]at this;simp at this;have h2:=iU this.1.2;exact⟨by omega,by omega,this.2⟩
theorem FW{a:ak}(h:Wf a)(k:a.1=11):a.2.2.2.1.length=2/\kV a.2.2.2.1=true:=by
 have:=(eG h).2.1;unfold fQ gA at this;simp only[k]at this;simp at this;exact⟨by omega,this.2⟩
theorem rV{a:ak}(h:Wf a)(k:a.1=12):0<=a.2.2.1/\a.2.2.1<=23:=by
 have:=(eG h).2.1;unfold fQ gA at this;simp only[k]at this;simp at this;exact iU this.2
theorem FU{a:ak}(h:Wf a)(k:a.1=9):0<=a.2.2.1/\a.2.2.1<=3:=by
 have:=(eG h).2.1;unfold fQ gA at this;simp only[k]at this;simp at this;exact iU this.2
theorem wf_data{a:ak}(h:Wf a):a.2.2.2.1.length<=4:=by
 have:=(eG h).2.1;unfold fQ gA at this;dsimp only at this;split at this
 .simp at this;rw[this.1];decide
 split at this
 .simp at this;rw[this.1];decide
 split at this
 .simp at this;omega
 split at this
 .simp at this;rw[this.1];decide
 split at this
 .simp at this;rw[this.1];decide
 split at this
 .simp at this;have:=iU this.1.2;omega
 split at this
 .simp at this;omega
 .simp at this;rw[this.2];decide
def RV(D:Int->Prop)(xs:List ak):Prop:=∀i:Int,0<=i->i<(xs.length:Nat)->¬D i->Wf (ah xs i)
theorem RV.grow{D E:Int->Prop}{xs xs' zs:aS}(h:RV D xs)(hs:eB xs' (xs++zs))(hz:∀z∈zs,Wf z)(hE:∀i,D i->E i):RV E xs':=fun i h0 h1 hi=>by
 rw[FV (hs.2 i h0 h1)]
 by_cases hl:i<(xs.length:Nat)
 .rw[bZ (by omega)];exact h i h0 hl fun k=>hi (hE i k)
 .have hln:=hs.1;rw[qA]at hln;have hlt:i.toNat-xs.length<zs.length:=by omega
  have e:ah (xs++zs) i=zs[i.toNat-xs.length]:=by
   unfold ah elt;rw[qC,qL (by omega),qB hlt];rfl
  rw[e];exact hz _ (List.getElem_mem hlt)
structure BkW(bk:List (List ak)):Prop where
 wi:∀v:Int,0<=v->v<(bk.length:Nat)->gL (fun p=>aj (bG bk v) p) (bG bk v)
 r0:∀v:Int,0<=v->v<(bk.length:Nat)->aj (bG bk v) (0,0)
 r1:∀v:Int,0<=v->v<(bk.length:Nat)->∀p,aj (bG bk v) p->p.1=0->p=(0,0)
 wf:∀v:Int,0<=v->v<(bk.length:Nat)->∀i:Int,0<=i->i<((bG bk v).length:Nat)->Wf (ah (bG bk v) i)
def lH(bk:List (List ak))(xs:List ak)(c x y:Int):List ak:=
 bif c==3 then[lD xs y]++[lD xs y]++List.replicate ((ah xs y).2.2.2.2.length-1) (bf 4 (ah xs x).2.1 0 [] 3)
 else bif c==4 then List.replicate ((ah xs y).2.2.2.2.length-1) (bf 5 0 0 [] 1)
 else bif c==5 then(bif (ah xs y).1==7 then[bf 8 (ah xs y).2.1 (ah xs y).2.2.1 [(ah xs x).2.2.1] 2]else[bf 6 0 (xZ (ah xs y).2.2.1 (kM (ah xs y).2.2.2.1 0) (ah xs x).2.2.1) [] 1])
 else bif c==6 then(bif (ah xs x).1==6 then[bf 12 (ah xs y).2.1 (kM (ah xs y).2.2.2.1 (bif (ah xs x).2.2.1==0 then 1 else 0)) [] 1]
  else[bf 12 (ah xs y).2.1 (kM (ah xs y).2.2.2.1 (ah xs x).2.2.1) [] 1]++List.replicate ((ah xs x).2.2.2.2.length-1) (bf 3 (ah xs y).2.1 0 [] 3))
 else bif c==7 then((mJ bk xs x).drop 1).map (bP ((xs.length:Nat)-1))else[]
section
variable {D:Int->Prop}{xs ys:aS}{x y:Int}{bk:iQ}
theorem OG{x:Int}{b:Nat}{P Q:aS}(h:eB P Q):∀k,eB (Ch x b P k) Q
 |0=>h
 |k+1=>(OG h k).move _ _
theorem OI(lv:Int)(b:Nat)(P:aS):∀k,eB (oL lv b P k) (P++List.replicate k (bf 3 lv 0 [] 3))
 |0=>by rw[List.replicate_zero,qS];exact eB.refl _
 |k+1=>by
  unfold oL;rw[List.replicate_succ',<-qF];exact((OI lv b P k).app _).link _ _
theorem nQ{c:Int}(hc:1<=c/\c<=7)(hx:x.toNat<xs.length):eB (aW bk xs c x y) (xs++lH bk xs c x y):=by
 have hcs:c=1\/c=2\/c=3\/c=4\/c=5\/c=6\/c=7:=by omega
 rcases hcs with rfl|rfl|rfl|rfl|rfl|rfl|rfl
 .show eB (bg (bg xs (x,1) (y,1)) (x,2) (y,2)) (xs++[]);rw[qS];exact((eB.refl xs).join _ _).join _ _
 .show eB (bg (bg xs (x,1) (y,1)) (x,2) (y,2)) (xs++[]);rw[qS];exact((eB.refl xs).join _ _).join _ _
 .show eB (bK xs x y) (xs++([lD xs y]++[lD xs y]++List.replicate ((ah xs y).2.2.2.2.length-1) (bf 4 (ah xs x).2.1 0 [] 3)));unfold bK mM dup3
  have e:(ah (dup2 xs y) x).2.1=(ah xs x).2.1:=by
   unfold dup2;rw[bZ (by rw[qA];omega),bZ hx]
  rw[<-(mh (x:=x) (by rw[iF];omega) _).1,e];refine Ht ((eB.move ?_ _ _).move _ _) _;rw[<-qF,<-qF];exact KP _ _ _ _ _
 .exact OY y xs _
 .show eB (bJ xs x y) (xs++(bif (ah xs y).1==7 then[bf 8 (ah xs y).2.1 (ah xs y).2.2.1 [(ah xs x).2.2.1] 2]else[bf 6 0 (xZ (ah xs y).2.2.1 (kM (ah xs y).2.2.2.1 0) (ah xs x).2.2.1) [] 1]));unfold bJ;cases (ah xs y).1==7 with
  |true=>exact(((eB.refl xs).app _).move _ _).move _ _
  |false=>exact((eB.refl xs).app _).move _ _
 .show eB (gZ xs x y) (xs++(bif (ah xs x).1==6 then[bf 12 (ah xs y).2.1 (kM (ah xs y).2.2.2.1 (bif (ah xs x).2.2.1==0 then 1 else 0)) [] 1]
   else[bf 12 (ah xs y).2.1 (kM (ah xs y).2.2.2.1 (ah xs x).2.2.1) [] 1]++List.replicate ((ah xs x).2.2.2.2.length-1) (bf 3 (ah xs y).2.1 0 [] 3)))
  unfold gZ;cases (ah xs x).1==6 with
  |true=>exact((eB.refl xs).app _).move _ _
  |false=>
   simp only[qH];rw[<-qF];exact(OG (OI _ _ _ _) _).move _ _
 .exact((eB.refl xs).app _).link _ _
theorem Ua{c:Int}(h:St D xs ys)(k:iw D xs x y)(hD:∀i,D i->i<(xs.length:Nat))(hw:RV D xs)(hr:rule (ah xs x).1 (ah xs x).2.1 (ah xs y).1 (ah xs y).2.1=c)(hc:1<=c/\c<=7)(hb:BkW bk)(h7:c=7->(ah xs x).2.2.1<(bk.length:Nat)):
  St (fun i=>D i\/i∈bR c x y) (aW bk xs c x y) (dX bk ys c x y):=by
 have wx:=hw x k.px.1 k.px.2.1 k.lx;have wy:=hw y k.py.1 k.py.2.1 k.ly;obtain⟨x1,x2,x3,x4⟩:=fG wx;obtain⟨y1,y2,y3,y4⟩:=fG wy;obtain⟨r1,r2,r3,r4,r5,r6,r7⟩:=eP hr (by omega)
 have mono:∀{E:Int->Prop} {A B:List ak},(∀i,E i↔D i\/i=x\/i=y)->St (fun i=>D i\/i=x\/i=y) A B->St E A B:=fun {E A B} e s=>by
  have:E=fun i=>D i\/i=x\/i=y:=funext fun i=>propext (e i)
  rw[this];exact s
 have g2:c≠7->∀i,(D i\/i∈bR c x y)↔D i\/i=x\/i=y:=fun hne i=>by
  unfold bR;rw[show(c==7)=false by simpa using hne];simp
 have hcs:c=1\/c=2\/c=3\/c=4\/c=5\/c=6\/c=7:=by omega
 rcases hcs with rfl|rfl|rfl|rfl|rfl|rfl|rfl
 .obtain⟨a,b⟩:=r1 rfl;exact mono (g2 (by decide)) (h.joins k (x3 (by omega)) (y3 (by omega)))
 .obtain⟨a,b⟩:=r2 rfl;exact mono (g2 (by decide)) (h.joins k (x3 (by omega)) (y3 (by omega)))
 .exact mono (g2 (by decide)) (h.duplicate k hD (x3 (by have:=r3 rfl;omega)) (eG wy).2.2.2)
 .exact mono (g2 (by decide)) (h.erase k hD (x1 (by have:=r4 rfl;omega)))
 .obtain⟨a,b⟩:=r5 rfl;exact mono (g2 (by decide)) (h.operate k hD (x1 (by omega)) (fun e=>y3 (by omega)) (fun e=>y2 (by omega)))
 .have q:=r6 rfl;exact mono (g2 (by decide)) (h.choose k hD (by omega) (fun e=>x1 (by omega)) (eG wx).2.2.2 (y2 (by omega)))
 .obtain⟨a,b⟩:=r7 rfl;have v:=rV wx a;have e:(fun i=>D i\/i∈bR 7 x y)=fun i=>D i\/i=x:=funext fun i=>propext (by unfold bR;simp)
  rw[e];exact h.expand k hD (x1 (by omega)) (hb.wi _ v.1 (h7 rfl)) (hb.r0 _ v.1 (h7 rfl)) (hb.r1 _ v.1 (h7 rfl))
end
end Go.Tr
namespace Go.Tr
open Go Go.RowKit
theorem AO(x:Int):rD (nE x)=true:=by
 have h: -2147483648<=IntKind.i32.wrap x/\IntKind.i32.wrap x<=2147483647:=by
  simp only[IntKind.wrap,IntKind.bits,IntKind.signed];simp;omega
 unfold nE;rw[qO _ (by omega)];exact Ju h.1 h.2
theorem Xz(o a b:Int):rD (xZ o a b)=true:=by
 unfold xZ;cases o==1 with
 |true=>exact AO _
 |false=>
 cases o==2 with
 |true=>exact AO _
 |false=>
 cases o==3 with
 |true=>exact AO _
 |false=>
 cases o==4 with
 |true=>
  cases nE b==0 with
  |true=>rfl
  |false=>exact AO _
 |false=>
 cases o==5 with
 |true=>cases decide (nE a<nE b)<;>rfl
 |false=>
 cases o==6 with
 |true=>cases nE a==nE b<;>rfl
 |false=>rfl
theorem V7{lv:Int}{a:ak}(h:Wf a)(h0:0<=lv)(h8:(!(bX a.kind)||decide (a.level+lv<=8))=true):Wf (jy lv a):=by
 unfold jy;cases hl:bX a.kind with
 |false=>exact h
 |true=>
  have h9:a.2.1+lv<=8:=by
   rw[show ak.kind a=a.1 from rfl]at*;rw[hl]at h8;simpa using h8
  have hp:=eG h;have hlev:=xE h;unfold Wf gD at h |-;simp only[qD]at h |-;obtain⟨⟨⟨q1,q2⟩,q3⟩,q4⟩:=h;refine⟨⟨⟨q1,q2⟩,?_⟩,q4⟩;show dz a.1 (a.2.1+lv)=true;have q5:dz a.1 a.2.1=true:=q3;unfold dz at q5 |-;simp only[qD,Bool.or_eq_true]at q5 |-;exact⟨q5.1,.inr ⟨hl,Ju (by omega) h9⟩⟩
theorem Q9(b:Int)(a:ak):sig (bP b a)=sig a:=by unfold sig bP;simp
section
variable {D:Int->Prop}{xs:aS}{x y:Int}{bk:iQ}
theorem G6{c:Int}(hw:RV D xs)(hx:0<=x/\x<(xs.length:Nat))(hy:0<=y/\y<(xs.length:Nat))(lx:¬D x)(ly:¬D y)(hr:rule (ah xs x).1 (ah xs x).2.1 (ah xs y).1 (ah xs y).2.1=c)(hc:1<=c/\c<=7)(hb:BkW bk)
  (h6:c=6->(ah xs x).1=9->(ah xs x).2.2.1<((ah xs y).2.2.2.1.length:Nat)) (h7:c=7->(ah xs x).2.2.1<(bk.length:Nat)/\eX (ah xs x).2.1 (bG bk (ah xs x).2.2.1)=true):RV D (aW bk xs c x y):=by
 have wx:=hw x hx.1 hx.2 lx;have wy:=hw y hy.1 hy.2 ly;have lvx:=xE wx;have lvy:=xE wy;obtain⟨r1,r2,r3,r4,r5,r6,r7⟩:=eP hr (by omega);refine hw.grow (nQ hc (by omega)) ?_ fun i e=>e
 have hcs:c=1\/c=2\/c=3\/c=4\/c=5\/c=6\/c=7:=by omega
 rcases hcs with rfl|rfl|rfl|rfl|rfl|rfl|rfl
 .intro z hz;cases hz
 .intro z hz;cases hz
 .intro z hz;have hz':z∈[lD xs y]++[lD xs y]++List.replicate ((ah xs y).2.2.2.2.length-1) (bf 4 (ah xs x).2.1 0 [] 3):=hz;rw[List.mem_append,List.mem_append,qX]at hz';rcases hz' with(e|e)|e
  .rw[e];exact Qq wy
  .rw[e];exact Qq wy
  .rw[List.eq_of_mem_replicate e];exact Zar lvx
 .intro z hz;have hz':z∈List.replicate ((ah xs y).2.2.2.2.length-1) (bf 5 0 0 [] 1):=hz;rw[List.eq_of_mem_replicate hz'];exact Zaq
 .obtain⟨a,b⟩:=r5 rfl;intro z hz;have hz':z∈(bif (ah xs y).1==7 then[bf 8 (ah xs y).2.1 (ah xs y).2.2.1 [(ah xs x).2.2.1] 2]else[bf 6 0 (xZ (ah xs y).2.2.1 (kM (ah xs y).2.2.2.1 0) (ah xs x).2.2.1) [] 1]):=hz;cases hk:(ah xs y).1==7 with
  |true=>
   rw[hk,qG,qX]at hz';rw[hz'];exact Zat lvy (Yj wy (by simpa using hk)) (V4 wx a)
  |false=>
   rw[hk,qH,qX]at hz';rw[hz'];exact Zas (Xz _ _ _)
 .have q:=r6 rfl;intro z hz
  have hz':z∈(bif (ah xs x).1==6 then[bf 12 (ah xs y).2.1 (kM (ah xs y).2.2.2.1 (bif (ah xs x).2.2.1==0 then 1 else 0)) [] 1]
   else[bf 12 (ah xs y).2.1 (kM (ah xs y).2.2.2.1 (ah xs x).2.2.1) [] 1]++List.replicate ((ah xs x).2.2.2.2.length-1) (bf 3 (ah xs y).2.1 0 [] 3)):=hz
  rcases q with⟨a,b⟩|⟨a,b⟩
  .rw[show((ah xs x).1==6)=true by simpa using a,qG,qX]at hz';obtain⟨l2,d⟩:=FW wy b;rw[hz'];refine V6 lvy (OQ d ?_ ?_)
   .cases (ah xs x).2.2.1==0<;>decide
   .rw[l2];cases (ah xs x).2.2.1==0<;>decide
  .rw[show((ah xs x).1==6)=false by simp[a],qH,List.mem_append,qX]at hz';obtain⟨_,_,d⟩:=V3 wy b;rcases hz' with e|e
   .rw[e];exact V6 lvy (OQ d (FU wx a).1 (h6 rfl a))
   .rw[List.eq_of_mem_replicate e];exact Zap lvy
 .obtain⟨a,b⟩:=r7 rfl;obtain⟨v1,v2⟩:=h7 rfl;intro z hz;have hz':z∈((mJ bk xs x).drop 1).map (bP ((xs.length:Nat)-1)):=hz;obtain⟨w,hw1,rfl⟩:=List.mem_map.1 hz';rw[FV (Q9 _ w)];have hw2:=List.mem_of_mem_drop hw1;unfold mJ bU at hw2;obtain⟨u,hu,rfl⟩:=List.mem_map.1 hw2;obtain⟨i,hi,rfl⟩:=List.mem_iff_getElem.1 hu;have hv:=rV wx a;have wu:=hb.wf _ hv.1 v1 (i:Nat) (by omega) (by omega)
  have e:ah (bG bk (ah xs x).2.2.1) (i:Nat)=(bG bk (ah xs x).2.2.1)[i]:=by
   generalize bG bk (ah xs x).2.2.1=t at*;unfold ah elt;rw[qK,qC,qB hi];rfl
  rw[e]at wu;refine V7 wu (by omega) ?_;unfold eX at v2;exact List.all_eq_true.1 v2 _ hu
theorem Ub{c:Int}(hw:RV D xs)(hx:0<=x/\x<(xs.length:Nat))(hy:0<=y/\y<(xs.length:Nat))(lx:¬D x)(ly:¬D y)(hr:rule (ah xs x).1 (ah xs x).2.1 (ah xs y).1 (ah xs y).2.1=c)(hc:1<=c/\c<=7)(hb:BkW bk)
  (h6:c=6->(ah xs x).1=9->(ah xs x).2.2.1<((ah xs y).2.2.2.1.length:Nat)) (h7:c=7->(ah xs x).2.2.1<(bk.length:Nat)/\eX (ah xs x).2.1 (bG bk (ah xs x).2.2.1)=true):RV (fun i=>D i\/i∈bR c x y) (aW bk xs c x y):=fun i h0 h1 hi=>G6 hw hx hy lx ly hr hc hb h6 h7 i h0 h1 fun e=>hi (.inl e)
end
end Go.Tr
namespace Go.Tr
open Go Go.RowKit
section
variable {D:Int->Prop}{xs ys:aS}{x y a b:Int}{bk:iQ}
theorem uE{u v:ak}(hu:Wf u)(hv:Wf v)(ru:u.1≠1)(rv:v.1≠1):lJ u.1 u.2.1 v.1 v.2.1=true:=by
 unfold lJ;rw[(eG hu).1,(eG hv).1];simp[ru,rv]
theorem QD{u v:ak}(hu:Wf u)(hv:Wf v)(ru:u.1≠1)(rv:v.1≠1):1<=aT u.1 u.2.1 v.1 v.2.1/\aT u.1 u.2.1 v.1 v.2.1<=8:=by
 have hp:=uE hu hv ru rv;unfold aT;rw[hp,if_pos rfl];have r1:=nS u.1 u.2.1 v.1 v.2.1;have r2:=nS v.1 v.2.1 u.1 u.2.1;split
 .split
  .decide
  .omega
 .omega
theorem M6{u v:ak}(hu:Wf u)(hv:Wf v)(ru:u.1≠1)(rv:v.1≠1)(h8:aT u.1 u.2.1 v.1 v.2.1=8):aP u.1 u.2.1 v.1 v.2.1=0:=by
 have hp:=uE hu hv ru rv;unfold aT at h8;unfold aP;rw[hp,if_pos rfl]at h8;rw[hp,if_pos rfl];have r1:=nS u.1 u.2.1 v.1 v.2.1;have r2:=nS v.1 v.2.1 u.1 u.2.1;split at h8
 .rename_i e1;rw[if_pos e1];split at h8
  .rename_i e2;rw[if_pos e2]
  .omega
 .omega
theorem MJ{u v:ak}{c:Int}(hr:rule u.1 u.2.1 v.1 v.2.1=c)(hc:1<=c/\c<=7):iZ u v=false/\pF c u v=eO u v:=by
 obtain⟨r1,r2,r3,r4,r5,r6,r7⟩:=eP hr (by omega)
 have k2:u.1≠10:=by
  intro e;have:c=1\/c=2\/c=3\/c=4\/c=5\/c=6\/c=7:=by omega
  rcases this with h|h|h|h|h|h|h
  .have:=r1 h;omega
  .have:=r2 h;omega
  .have:=r3 h;omega
  .have:=r4 h;omega
  .have:=r5 h;omega
  .have:=r6 h;omega
  .have:=r7 h;omega
 constructor
 .unfold iZ;rw[show(u.1==10)=false by simpa using k2];rfl
 .unfold pF eO
  have e:(bif c==6 then v.kind==10 else false)=(bif u.1==9 then v.1==10 else false):=by
   show(bif c==6 then v.1==10 else false)=_
   by_cases h9:u.1=9
   .have hc6:c=6\/v.1≠10:=by
     by_cases hv:v.1=10
     .left;rw[<-hr];unfold rule;rw[h9,hv];rfl
     .exact .inr hv
    rw[show(u.1==9)=true by simpa using h9,qG];rcases hc6 with h|h
    .rw[h];rfl
    .rw[show(v.1==10)=false by simpa using h];cases c==6<;>rfl
   .rw[show(u.1==9)=false by simpa using h9,qH]
    by_cases h6:c=6
    .have:=r6 h6;rw[show(v.1==10)=false by simp;omega];cases c==6<;>rfl
    .rw[show(c==6)=false by simpa using h6];rfl
  rw[e]
theorem wG(ha:Wf (ah xs a))(hb:Wf (ah xs b))(ra:(ah xs a).1≠1)(rb:(ah xs b).1≠1):(bn (ah xs a) (ah xs b)).1=aR (ah xs (au xs a b).1) (ah xs (au xs a b).2)/\
  ((bn (ah xs a) (ah xs b)).1≠8->(bif (bn (ah xs a) (ah xs b)).2 then b else a)=(au xs a b).1/\(bif (bn (ah xs a) (ah xs b)).2 then a else b)=(au xs a b).2/\
   rule (ah xs (au xs a b).1).1 (ah xs (au xs a b).1).2.1 (ah xs (au xs a b).2).1 (ah xs (au xs a b).2).2.1=(bn (ah xs a) (ah xs b)).1/\1<=(bn (ah xs a) (ah xs b)).1/\(bn (ah xs a) (ah xs b)).1<=7):=by
 have hp:=QD ha hb ra rb
 by_cases h8:aT (ah xs a).1 (ah xs a).2.1 (ah xs b).1 (ah xs b).2.1=8
 .have hf:=M6 ha hb ra rb h8
  have e1:bn (ah xs a) (ah xs b)=(8,false):=by
   unfold bn pF;rw[show(aP (ah xs a).kind (ah xs a).level (ah xs b).kind (ah xs b).level==2)=false by rw[show aP (ah xs a).kind (ah xs a).level (ah xs b).kind (ah xs b).level=0 from hf];rfl];rw[show aT (ah xs a).kind (ah xs a).level (ah xs b).kind (ah xs b).level=8 from h8];rfl
  have e2:au xs a b=(a,b):=by unfold au;rw[hf];rfl
  rw[e1,e2];refine⟨?_,fun h=>absurd rfl h⟩;unfold aR;rw[h8];cases eO (ah xs a) (ah xs b)<;>cases iZ (ah xs a) (ah xs b)<;>rfl
 .have hc:1<=aT (ah xs a).1 (ah xs a).2.1 (ah xs b).1 (ah xs b).2.1/\aT (ah xs a).1 (ah xs a).2.1 (ah xs b).1 (ah xs b).2.1<=7:=by omega
  have hr:=M4 (xs:=xs) (a:=a) (b:=b) hc;obtain⟨c1,c2⟩:=MJ hr hc
  have hcS:aR (ah xs (au xs a b).1) (ah xs (au xs a b).2)=bif eO (ah xs (au xs a b).1) (ah xs (au xs a b).2)then 8 else aT (ah xs a).1 (ah xs a).2.1 (ah xs b).1 (ah xs b).2.1:=by
   unfold aR;rw[c1]
   have:aT (ah xs (au xs a b).1).1 (ah xs (au xs a b).1).2.1 (ah xs (au xs a b).2).1 (ah xs (au xs a b).2).2.1=aT (ah xs a).1 (ah xs a).2.1 (ah xs b).1 (ah xs b).2.1:=by
    unfold au;cases aP (ah xs a).1 (ah xs a).2.1 (ah xs b).1 (ah xs b).2.1==2 with
    |true=>exact nY _ _ _ _
    |false=>rfl
   rw[this];cases eO (ah xs (au xs a b).1) (ah xs (au xs a b).2)<;>rfl
  rw[hcS];generalize hC:aT (ah xs a).1 (ah xs a).2.1 (ah xs b).1 (ah xs b).2.1=c at*;cases hf:aP (ah xs a).1 (ah xs a).2.1 (ah xs b).1 (ah xs b).2.1==2 with
  |true=>
   have e2:au xs a b=(b,a):=by unfold au;rw[hf];rfl
   rw[e2]at hr c2 |-
   have e1:bn (ah xs a) (ah xs b)=bif eO (ah xs b) (ah xs a)then(8,false)else(c,true):=by
    unfold bn;rw[show(aP (ah xs a).kind (ah xs a).level (ah xs b).kind (ah xs b).level==2)=true from hf,show aT (ah xs a).kind (ah xs a).level (ah xs b).kind (ah xs b).level=c from hC];simp only[qG];rw[c2]
   rw[e1];cases eO (ah xs b) (ah xs a)with
   |true=>exact⟨rfl,fun h=>absurd rfl h⟩
   |false=>exact⟨rfl,fun _=>⟨rfl,rfl,hr,hc⟩⟩
  |false=>
   have e2:au xs a b=(a,b):=by unfold au;rw[hf];rfl
   rw[e2]at hr c2 |-
   have e1:bn (ah xs a) (ah xs b)=bif eO (ah xs a) (ah xs b)then(8,false)else(c,false):=by
    unfold bn;rw[show(aP (ah xs a).kind (ah xs a).level (ah xs b).kind (ah xs b).level==2)=false from hf,show aT (ah xs a).kind (ah xs a).level (ah xs b).kind (ah xs b).level=c from hC];simp only[qH];rw[c2]
   rw[e1];cases eO (ah xs a) (ah xs b)with
   |true=>exact⟨rfl,fun h=>absurd rfl h⟩
   |false=>exact⟨rfl,fun _=>⟨rfl,rfl,hr,hc⟩⟩
end
end Go.Tr
namespace Go.Tr
open Go Go.RowKit
section
variable {xs:aS}{a b:Int}{bk:iQ}
theorem Xq{u v m:Int}:Jz u v<=m↔u<=m/\v<=m:=by
 unfold Jz;cases h:decide (v<u)with
 |true=>simp only[qQ]at h;simp only[qG];omega
 |false=>simp only[qP]at h;simp only[qH];omega
theorem Bp{t:aS}{m:Int}(hm:0<=m):∀k:Nat,lX t k<=m↔∀i:Nat,i<k->(ah t (i:Nat)).2.1<=m
 |0=>⟨fun _ i hi=>by omega,fun _=>hm⟩
 |k+1=>by
  unfold lX;rw[Xq,Bp hm k];constructor
  .rintro⟨h1,h2⟩ i hi
   by_cases e:i=k
   .rw[e];exact h2
   .exact h1 i (by omega)
  .intro h;exact⟨fun i hi=>h i (by omega),h k (by omega)⟩
theorem tL{t:aS}{i:Nat}(hi:i<t.length):ah t (i:Nat)=t[i]:=by
 unfold ah elt;rw[qK,qC,qB hi];rfl
theorem VI{t:aS}{lv:Int}(ht:∀i:Int,0<=i->i<(t.length:Nat)->Wf (ah t i))(h0:0<=lv)(h8:lv<=8):decide (8<IntKind.i64.wrap (lX t t.length+lv))= !eX lv t:=by
 have hb:lX t t.length<=8:=(Bp (by decide) _).2 fun i hi=>by
  have:=xE (ht (i:Nat) (by omega) (by omega));omega
 have hz:0<=lX t t.length:=by
  have:∀k:Nat,0<=lX t k:=fun k=>by
   induction k with
   |zero=>exact Int.le_refl 0
   |succ k ih=>unfold lX Jz;cases h:decide ((ah t (k:Nat)).2.1<lX t k)with
    |true=>exact ih
    |false=>simp only[qP]at h;simp only[qH];omega
  exact this _
 rw[qO _ (by omega)]
 have key:eX lv t=decide (lX t t.length<=8-lv):=by
  rw[Bool.eq_iff_iff,qQ,Bp (by omega)];unfold eX;rw[List.all_eq_true];constructor
  .intro h i hi;have q:=h _ (List.getElem_mem hi);have w:=ht (i:Nat) (by omega) (by omega);rw[<-tL hi]at q;cases hl:bX (ah t (i:Nat)).kind with
   |true=>
    rw[hl]at q;have:(ah t (i:Nat)).2.1+lv<=8:=by simpa using q
    omega
   |false=>
    have q2:=(eG w).1;unfold dz at q2;rw[show bX (ah t (i:Nat)).1=false from hl]at q2;simp only[Bool.false_and,Bool.or_false,qD,beq_iff_eq]at q2;omega
  .intro h u hu;obtain⟨i,hi,rfl⟩:=List.mem_iff_getElem.1 hu;have q:=h i hi;rw[tL hi]at q;have:t[i].level+lv<=8:=by show t[i].2.1+lv<=8;omega
   simp[this]
 rw[key,<-decide_not];exact decide_eq_decide.2 (by omega)
theorem OO(ha:Wf (ah xs a))(hb:Wf (ah xs b))(ra:(ah xs a).1≠1)(rb:(ah xs b).1≠1)(hbk:BkW bk):
  ((dM bk (ah xs (au xs a b).1) (ah xs (au xs a b).2)).2≠0->(checkN bk xs (a,b)).2.2.2=(dM bk (ah xs (au xs a b).1) (ah xs (au xs a b).2)).2)/\
  ((dM bk (ah xs (au xs a b).1) (ah xs (au xs a b).2)).2=0->checkN bk xs (a,b)=(aR (ah xs (au xs a b).1) (ah xs (au xs a b).2),(au xs a b).1,(au xs a b).2,0)/\
   tZ bk xs (aR (ah xs (au xs a b).1) (ah xs (au xs a b).2)) (au xs a b).1 (au xs a b).2=(dM bk (ah xs (au xs a b).1) (ah xs (au xs a b).2)).1/\
   (aR (ah xs (au xs a b).1) (ah xs (au xs a b).2)=7->(ah xs (au xs a b).1).2.2.1<(bk.length:Nat)/\eX (ah xs (au xs a b).1).2.1 (bG bk (ah xs (au xs a b).1).2.2.1)=true)):=by
 obtain⟨e1,e2⟩:=wG ha hb ra rb
 have hx1:Wf (ah xs (au xs a b).1):=by
  unfold au;cases aP (ah xs a).1 (ah xs a).2.1 (ah xs b).1 (ah xs b).2.1==2
  .exact ha
  .exact hb
 generalize hc:aR (ah xs (au xs a b).1) (ah xs (au xs a b).2)=c at*;unfold dM checkN;rw[hc];simp only[e1]
 by_cases h8:c=8
 .subst h8;refine⟨fun _=>rfl,fun h=> ?_⟩;cases h
 .obtain⟨k1,k2,k3,k4,k5⟩:=e2 (by rw[e1];exact h8);rw[e1]at k3 k4 k5;have k1':(bif (bn (ah xs a) (ah xs b)).2 then((a,b):Int×Int).2 else((a,b):Int×Int).1)=(au xs a b).1:=k1;have k2':(bif (bn (ah xs a) (ah xs b)).2 then((a,b):Int×Int).1 else((a,b):Int×Int).2)=(au xs a b).2:=k2;rw[show(c==8)=false by simpa using h8];simp only[qH];rw[k1',k2'];generalize (au xs a b).1=x at*;generalize (au xs a b).2=y at*
  by_cases h7:c=7
  .subst h7;obtain⟨_,_,_,_,_,_,r7⟩:=eP k3 (by decide);have hv:=rV hx1 (r7 rfl).1;have hlv:=xE hx1;rw[show((7:Int)==7)=true from rfl];simp only[qG];cases hd:decide ((bk.length:Int)<=(ah xs x).2.2.1)with
   |true=>
    refine⟨fun _=>rfl,fun h=> ?_⟩;cases h
   |false=>
    simp only[qP]at hd;have hvl:(ah xs x).2.2.1<(bk.length:Nat):=by omega
    rw[VI (hbk.wf _ hv.1 hvl) (by omega) (by omega)];cases hs:eX (ah xs x).2.1 (bG bk (ah xs x).2.2.1)with
    |false=>
     refine⟨fun _=>rfl,fun h=> ?_⟩;cases h
    |true=>
     refine⟨fun h=>absurd rfl h,fun _=>⟨by first|rfl|trivial,by first|rfl|trivial,fun _=>⟨hvl,by first|rfl|trivial⟩⟩⟩
  .rw[show(c==7)=false by simpa using h7];simp only[qH];refine⟨fun h=>absurd rfl h,fun _=>⟨by first|rfl|trivial,?_,fun h=>absurd h h7⟩⟩;rfl
end
end Go.Tr
namespace Go.Tr
open Go Go.RowKit
abbrev aV:U:=.pair (.int .i64) (.pair (.int .i64) (.pair (.int .i64) (.pair (.int .i64) (.int .i64))))
abbrev aB:=Int×Int×Int×Int×Int
def hasB(xs:List ak)(k:Int):Bool:=bif decide (0<=k)then decide (k<(xs.length:Nat))else false
def fK(xs:List ak)(kv:List (Int×Bool))(k:Int):Bool:=bif hasB xs k then !(dS false kv k)else false
def nU(xs:List ak)(a b:Int):Bool:=
 bif (bif (bif decide (a<b)then bT [(elt (dflt aK) (ah xs a).2.2.2.2 0).1,(elt (dflt aK) (ah xs a).2.2.2.2 0).2] [b,0]else false)then(ah xs a).1 !=1 else false)then(ah xs b).1 !=1 else false
theorem TL{xs:aS}{k:Int}(h:hasB xs k=true):0<=k/\k<(xs.length:Nat):=by
 unfold hasB at h;cases h1:decide (0<=k)with
 |true=>rw[h1,qG]at h;exact⟨by simpa using h1,by simpa using h⟩
 |false=>rw[h1,qH]at h;cases h
theorem xW(kv:kT)(i j:Int):dS false (gM kv i true) j=if i=j then true else dS false kv j:=by
 induction kv with
 |nil=>
  simp only[gM,dS]
  by_cases h:i=j
  .rw[if_pos h,show(i==j)=true by simpa using h];rfl
  .rw[if_neg h,show(i==j)=false by simpa using h];rfl
 |cons e l ih=>
  obtain⟨k,v⟩:=e;simp only[gM];cases h:k==i with
  |true=>
   have h1:k=i:=by simpa using h
   subst h1;simp only[qG,dS]
   by_cases h2:k=j
   .rw[if_pos h2,show(k==j)=true by simpa using h2];rfl
   .rw[if_neg h2,show(k==j)=false by simpa using h2];rfl
  |false=>
   have h1:k≠i:=by simpa using h
   simp only[qH,dS,ih]
   by_cases h2:k=j
   .subst h2;rw[if_neg (Ne.symm h1),if_neg (Ne.symm h1)]
   .rw[show(k==j)=false by simpa using h2];rfl
theorem uh{kv:kT}(hT:∀e∈kv,e.2=true){i:Int}(h:dS false kv i=false):(gM kv i true).length=kv.length+1:=by
 induction kv with
 |nil=>rfl
 |cons e l ih=>
  obtain⟨k,v⟩:=e;simp only[dS]at h;simp only[gM];cases hk:k==i with
  |true=>
   rw[hk,qG]at h;have:=hT (k,v) (List.mem_cons_self ..);rw[h]at this;cases this
  |false=>
   rw[hk,qH]at h;simp only[qH,qI];rw[ih (fun e he=>hT e (List.mem_cons_of_mem _ he)) h]
theorem Jw{kv:kT}(hT:∀e∈kv,e.2=true)(i:Int):∀e∈gM kv i true,e.2=true:=by
 induction kv with
 |nil=>
  intro e he;simp only[gM,qX]at he;rw[he]
 |cons e l ih=>
  obtain⟨k,v⟩:=e;simp only[gM];cases hk:k==i with
  |true=>
   intro e he;simp only[qG,List.mem_cons]at he;rcases he with rfl|he
   .rfl
   .exact hT e (List.mem_cons_of_mem _ he)
  |false=>
   intro e he;simp only[qH,List.mem_cons]at he;rcases he with rfl|he
   .exact hT _ (List.mem_cons_self ..)
   .exact ih (fun e he=>hT e (List.mem_cons_of_mem _ he)) e he
def nH(kv:List (Int×Bool)):Nat->Nat
 |0=>0
 |k+1=>bif dS false kv (k:Nat)then nH kv k+1 else nH kv k
theorem Ba{kv:kT}{x:Int}(h0:0<=x)(h:dS false kv x=false):∀n:Nat,nH (gM kv x true) n=nH kv n+(if x<(n:Nat)then 1 else 0)
 |0=>by rw[if_neg (by omega)];rfl
 |n+1=>by
  unfold nH;rw[xW,Ba h0 h n]
  by_cases e:x=(n:Nat)
  .subst e;rw[if_pos rfl,qG,h,qH,if_neg (by omega),if_pos (by omega)]
  .rw[if_neg e]
   by_cases hl:x<(n:Nat)
   .rw[if_pos hl,if_pos (by omega)];cases dS false kv (n:Nat)<;>simp only[qG,qH]<;>omega
   .rw[if_neg hl,if_neg (by omega)];cases dS false kv (n:Nat)<;>simp only[qG,qH]<;>omega
theorem A9{kv:kT}{n:Nat}(h:∀i:Int,(n:Int)<=i->dS false kv i=false):∀m:Nat,nH kv (n+m)=nH kv n
 |0=>rfl
 |m+1=>by
  show nH kv ((n+m)+1)=_;unfold nH;rw[h ((n+m:Nat):Int) (by omega),qH];have:=A9 h m;rw[this];cases n<;>rfl
theorem K5{kv:kT}{ys:aS}:∀n:Nat,(∀i:Nat,i<n->((ah ys (i:Nat)).1=0↔dS false kv (i:Nat)=true))->fE ys n+nH kv n=n
 |0,_=>rfl
 |n+1,h=>by
  have ih:=K5 n fun i hi=>h i (by omega)
  unfold fE nH;have hn:=h n (by omega)
  by_cases e:(ah ys (n:Nat)).1=0
  .rw[hn.1 e,show((ah ys (n:Nat)).1 !=0)=false by simpa using e,qG,qH];omega
  .rw[show((ah ys (n:Nat)).1 !=0)=true by simpa using e,show dS false kv (n:Nat)=false by cases hk:dS false kv (n:Nat)with
    |false=>rfl
    |true=>exact absurd (hn.2 hk) e,qG,qH]
   omega
section
variable {P:aS->Prop}(hl:∀xs p q,P xs->P (bD xs p q))(ha:∀xs zs,P xs->P (xs++zs))
include hl
theorem jF{xs:aS}{p q:aC}(h:P xs):P (bY xs p q):=hl _ _ _ h
theorem xV{xs:aS}{p q:aC}(h:P xs):P (bg xs p q):=by
 unfold bg;cases ((ay xs p).1==q.1&&(ay xs p).2==q.2)with
 |true=>exact h
 |false=>exact hl _ _ _ h
theorem yK{y:Int}{b:Nat}{xs:aS}(h:P xs):∀k,P (cB y b xs k)
 |0=>h
 |k+1=>jF hl (yK h k)
include ha
theorem Ab{x c d:Int}{xs:aS}(h:P xs):∀k,P (bV x c d xs k)
 |0=>h
 |k+1=>hl _ _ _ (hl _ _ _ (ha _ _ (Ab h k)))
theorem KZ{y:Int}{xs:aS}(h:P xs):∀k,P (sG y xs k)
 |0=>h
 |k+1=>jF hl (ha _ _ (KZ h k))
theorem KY{lv x:Int}{b:Nat}{xs:aS}(h:P xs):∀k,P (sZ lv x b xs k)
 |0=>h
 |k+1=>jF hl (hl _ _ _ (ha _ _ (KY h k)))
theorem Ef{bk:iQ}{xs:aS}{c x y:Int}(h:P xs):P (kr bk xs c x y):=by
 unfold kr;cases c==1
 .cases c==2
  .cases c==3
   .cases c==4
    .cases c==5
     .cases c==6
      .cases c==7
       .exact h
       .exact hl _ _ _ (ha _ _ h)
      .show P (eZ xs x y);unfold eZ;cases (ah xs y).1==11
       .exact jF hl (KY hl ha (ha _ _ h) _)
       .exact jF hl (ha _ _ h)
     .show P (bJ xs x y);unfold bJ;cases (ah xs y).1==7
      .exact jF hl (ha _ _ h)
      .exact jF hl (jF hl (ha _ _ h))
    .exact KZ hl ha h _
   .exact yK hl (jF hl (jF hl (Ab hl ha (ha _ _ (ha _ _ h)) _))) _
  .exact xV hl (xV hl h)
 .exact xV hl (xV hl h)
end
def Kg(i:Int)(ys:List ak):Prop:=i.toNat<ys.length/\ah ys i=KV
theorem Kg.set{i:Int}{ys:aS}(h:Kg i ys)(p q:aC):Kg i (aN ys p q):=by
 refine⟨by rw[cO];exact h.1,?_⟩;rw[d9];split
 .rename_i e;rw[zC e.1,h.2];rfl
 .exact h.2
theorem Kg.inter{i:Int}{ys:aS}(h:Kg i ys)(bk:iQ)(c x y:Int):Kg i (kr bk ys c x y):=
 Ef (P:=Kg i) (fun xs p q h=>(h.set p q).set q p) (fun xs zs h=>⟨by rw[qA];have:=h.1;omega,by rw[bZ h.1];exact h.2⟩) h
theorem Kg.drop{i:Int}{ys:aS}(h:Kg i ys)(a:Int):Kg i (bB ys a):=by
 refine⟨by rw[iL];exact h.1,?_⟩;unfold bB;rw[lu];split
 .rfl
 .exact h.2
theorem Kg.new{ys:aS}{a:Int}(h0:0<=a)(h1:a<(ys.length:Nat)):Kg a (bB ys a):=by
 refine⟨by rw[iL];omega,?_⟩;unfold bB;rw[lu,if_pos ⟨rfl,by omega⟩]
theorem G5{xs:aS}(bk:iQ)(c x y:Int):xs.length<=(kr bk xs c x y).length:=
 Ef (P:=fun ws=>xs.length<=ws.length) (fun ws p q h=>by rw[jd];exact h) (fun ws zs h=>by rw[qA];omega) (Nat.le_refl _)
theorem bO.Zbh{xs:aS}{p q:aC}(h:∀r,aj xs r->r≠p->r≠q->aj xs (ay xs r))(hp:aj xs p)(hq:aj xs q):bO (bD xs p q):=fun r hr=>by
 have hr':=hr.unlink;rw[gF hp hq hr'];split
 .exact hp.link
 .rename_i e1;split
  .exact hq.link
  .rename_i e2;exact(h r hr' (Ne.symm e2) (Ne.symm e1)).link
section
variable {xs:aS}{x y c:Int}{bk:iQ}
theorem Xl(hp:IntPre xs c x y)(hA:bO xs)(h0:aj xs (0,0))(hc:1<=c/\c<=7)(hb:BkW bk)(h7:c=7->(0<=(ah xs x).2.2.1/\(ah xs x).2.2.1<(bk.length:Nat))):bO (aW bk xs c x y):=by
 obtain⟨hx0,hy0,p12,p3,px,py,dy,p5,p6⟩:=hp;have hcs:c=1\/c=2\/c=3\/c=4\/c=5\/c=6\/c=7:=by omega
 rcases hcs with rfl|rfl|rfl|rfl|rfl|rfl|rfl
 .obtain⟨j1,j2,j3,j4⟩:=p12 (.inl rfl);exact(hA.join j1 j3).join j2.join j4.join
 .obtain⟨j1,j2,j3,j4⟩:=p12 (.inr rfl);exact(hA.join j1 j3).join j2.join j4.join
 .obtain⟨hx1,hx2⟩:=p3 rfl;show bO (bK xs x y);have h2A:=zO (y:=y) hA h0;have hcd:∀i:Nat,i<=(ah xs y).2.2.2.2.length-1->aj (dup2 xs y) (((xs.length:Nat):Int),(i:Nat))/\aj (dup2 xs y) (((xs.length+1:Nat):Int),(i:Nat)):=fun i hi=>⟨uX (by omega) (by omega),uY (by omega) (by omega)⟩
  have h3A:bO (dup3 xs x y):=om h2A (pG h0) _ hcd;have h3:∀{p},aj xs p->aj (dup3 xs x y) p:=fun h=>dA (pG h) _
  have hc0:aj (dup3 xs x y) (((xs.length:Nat):Int),0):=dA (uX (by decide) (by omega)) _;have hd0:aj (dup3 xs x y) (((xs.length+1:Nat):Int),0):=dA (uY (by decide) (by omega)) _;have h4A:bO (mM xs x y):=(h3A.move (h3 hx1) hc0).move (h3 hx2).move hd0.move;refine mW h4A _ fun i hi=>⟨(h3 ⟨hy0.1,hy0.2,by omega,?_⟩).move.move,?_⟩
  .show((i:Nat):Int)+1<((ah xs y).2.2.2.2.length:Nat);omega
  .have:=(tQ (x:=x) (c:=((xs.length:Nat):Int)) (d:=((xs.length+1:Nat):Int)) (xs:=dup2 xs y) hi).move (p:=(x,1)) (q:=(((xs.length:Nat):Int),0));have:=this.move (p:=(x,2)) (q:=(((xs.length+1:Nat):Int),0));rw[iF]at this;exact this
 .exact zS hA h0 _ fun i hi=>⟨hy0.1,hy0.2,by omega,by show((i+1:Nat):Int)<((ah xs y).2.2.2.2.length:Nat);omega⟩
 .obtain⟨j1,j2,j3⟩:=p5 rfl;show bO (bJ xs x y);unfold bJ;cases hk:(ah xs y).1==7 with
  |true=>
   have k7:=j2 (by simpa using hk);exact((hA.add h0 _ _ _ _ _).move j1.app (aj.new (by decide) (by decide))).move k7.app.move (aj.new (by decide) (by decide)).move
  |false=>exact(hA.add h0 _ _ _ _ _).move j1.app (aj.new (by decide) (by decide))
 .obtain⟨j1,j2,j3⟩:=p6 rfl;show bO (gZ xs x y);unfold gZ;cases hk:(ah xs x).1==6 with
  |true=>exact(hA.add h0 _ _ _ _ _).move j1.app (aj.new (by decide) (by decide))
  |false=>
   simp only[qH];have h1A:bO (bE xs y (ah xs x).2.2.1):=hA.add h0 _ _ _ _ _;have h1l:(bE xs y (ah xs x).2.2.1).length=xs.length+1:=tO _ _ _;have h1R:aj (bE xs y (ah xs x).2.2.1) (iW (bE xs y (ah xs x).2.2.1).length 0):=by rw[h1l];exact aj.new (by decide) (by decide)
   have h1:∀{p},aj xs p->aj (bE xs y (ah xs x).2.2.1) p:=fun h=>h.app
   have h2A:=IU (lv:=(ah xs y).2.1) h1A (h1 h0) h1R ((ah xs x).2.2.2.2.length-1);have hR:=Gx (lv:=(ah xs y).2.1) h1R ((ah xs x).2.2.2.2.length-1);have h2:∀{p},aj xs p->aj (oL (ah xs y).2.1 (bE xs y (ah xs x).2.2.1).length (bE xs y (ah xs x).2.2.1) ((ah xs x).2.2.2.2.length-1)) p:=fun h=>DC (h1 h) _
   have hxi:∀i:Nat,i<((ah xs x).2.2.2.2.length-1)->aj (oL (ah xs y).2.1 (bE xs y (ah xs x).2.2.1).length (bE xs y (ah xs x).2.2.1) ((ah xs x).2.2.2.2.length-1)) (x,((i:Nat):Int)+1)/\aj (oL (ah xs y).2.1 (bE xs y (ah xs x).2.2.1).length (bE xs y (ah xs x).2.2.1) ((ah xs x).2.2.2.2.length-1)) ((((bE xs y (ah xs x).2.2.1).length+i:Nat):Int),1):=fun i hi=>
    ⟨h2 ⟨hx0.1,hx0.2,by omega,by show((i:Nat):Int)+1<((ah xs x).2.2.2.2.length:Nat);omega⟩,zI (by decide) (by decide) hi⟩
   rw[h1l]at h2A h2 hxi hR;exact(CV h2A _ hxi).move (mQ (h2 j1) _) (mQ hR _)
 .obtain⟨v0,v1⟩:=h7 rfl;show bO (jO bk xs x y);unfold jO mJ;have hw:=hb.wi _ v0 v1;have r0:=hb.r0 _ v0 v1;have r1:=hb.r1 _ v0 v1;generalize bG bk (ah xs x).2.2.1=t at*;generalize (ah xs x).2.1=lv;generalize hbb:(xs.length:Int)-1=b;have hb':b=(xs.length:Int)-1:=hbb.symm;have hws:gL (fun p=>aj (bU lv t) p) (bU lv t):=hw.shift;have r0s:aj (bU lv t) (0,0):=aj.gV.2 r0;have r1s:∀p,aj (bU lv t) p->p.1=0->p=(0,0):=fun p hp e=>r1 p (aj.gV.1 hp) e
  generalize bU lv t=T at*;obtain⟨q1,q2,q3,q4⟩:=hws (0,0) r0s
  have rpos:1<=(ay T (0,0)).1:=by
   have h1:0<=(ay T (0,0)).1:=q2.1
   by_cases e:(ay T (0,0)).1=0
   .exact absurd (r1s _ q2 e) q4
   .omega
  have hR:aj (xs++(T.drop 1).map (bP b)) ((ay T (0,0)).1+b,(ay T (0,0)).2):=(aj.jG hb').2 (.inr ⟨by show(xs.length:Int)<=(ay T (0,0)).1+b;omega,by
   rw[show(((ay T (0,0)).1+b,(ay T (0,0)).2):aC).1-b=(ay T (0,0)).1 by show(ay T (0,0)).1+b-b=_;omega];exact q2⟩)
  have hY:aj xs (y,0):=⟨hy0.1,hy0.2,Int.le_refl 0,by show(0:Int)<((ah xs y).2.2.2.2.length:Nat);omega⟩;refine bO.Zbh (fun r hr n1 n2=> ?_) hY.app hR;rcases(aj.jG hb').1 hr with q|⟨q,qt⟩
  .rw[jH (Ej q)];exact(hA r q).app
  .rw[sO hb' q qt];obtain⟨s1,s2,s3,s4⟩:=hws _ qt
   by_cases e:(ay T (r.1-b,r.2)).1=0
   .exfalso;have e2:=r1s _ s2 e;rw[e2]at s3;apply n2;rw[s3];exact dW (by show r.1=r.1-b+b;omega) rfl
   .have s20:0<=(ay T (r.1-b,r.2)).1:=s2.1;refine(aj.jG hb').2 (.inr ⟨by show(xs.length:Int)<=(ay T (r.1-b,r.2)).1+b;omega,?_⟩);rw[show(((ay T (r.1-b,r.2)).1+b,(ay T (r.1-b,r.2)).2):aC).1-b=(ay T (r.1-b,r.2)).1 by show(ay T (r.1-b,r.2)).1+b-b=_;omega];exact s2
end
end Go.Tr
namespace Go.Tr
open Go Go.RowKit
abbrev Gone(kv:List (Int×Bool)):Int->Prop:=fun i=>dS false kv i=true
theorem jB(kv:kT)(ks:List Int)(i:Int):Gone (fU kv ks) i↔Gone kv i\/i∈ks:=by
 unfold fU Gone
 induction ks generalizing kv with
 |nil=>simp
 |cons k ks ih=>
  rw[List.foldl_cons,ih,xW,List.mem_cons]
  by_cases h:k=i
  .rw[if_pos h];simp[h]
  .rw[if_neg h];constructor
   .rintro(h1|h1)
    .exact .inl h1
    .exact .inr (.inr h1)
   .rintro(h1|h1|h1)
    .exact .inl h1
    .exact absurd h1.symm h
    .exact .inr h1
theorem ZbI{kv:kT}(hT:∀e∈kv,e.2=true)(ks:List Int):∀e∈fU kv ks,e.2=true:=by
 unfold fU
 induction ks generalizing kv with
 |nil=>exact hT
 |cons k ks ih=>rw[List.foldl_cons];exact ih (Jw hT k)
structure BkV(bk:List (List ak)):Prop extends BkW bk where
 rt:∀v:Int,0<=v->v<(bk.length:Nat)->∀i:Int,0<i->i<((bG bk v).length:Nat)->(ah (bG bk v) i).1≠1
structure Twin(kv:List (Int×Bool))(xs ys:List ak):Prop where
 st:St (Gone kv) xs ys
 wf:RV (Gone kv) xs
 dl:∀i,Gone kv i->0<=i/\i<(xs.length:Nat)
 hole:∀i,Gone kv i->Kg i ys
 r1:(ah xs 0).1=1
 r0:¬Gone kv 0
 rl:0<xs.length
 uq:∀i:Int,0<i->i<(xs.length:Nat)->¬Gone kv i->(ah xs i).1≠1
 kt:∀e∈kv,e.2=true
 kl:kv.length=nH kv xs.length
 al:bO xs
section
variable {kv:kT}{xs ys:aS}{a b x y c:Int}{bk:iQ}
theorem Twin.len(h:Twin kv xs ys):xs.length=ys.length:=h.st.ag.1
theorem Twin.at_(h:Twin kv xs ys){i:Int}(h0:0<=i)(h1:i<(xs.length:Nat))(hd:¬Gone kv i):ah ys i=ah xs i:=(h.st.ag.2 i h0 h1 hd).symm
theorem Twin.p0(h:Twin kv xs ys):aj xs (0,0):=by
 have w:=h.wf 0 (Int.le_refl 0) (by have:=h.rl;omega) h.r0;have:=(eG w).2.2.2;exact⟨Int.le_refl 0,by have:=h.rl;show(0:Int)<_;omega,Int.le_refl 0,by show(0:Int)<((ah xs 0).2.2.2.2.length:Nat);omega⟩
theorem Twin.p0y(h:Twin kv xs ys):aj ys (0,0):=(h.st.ag.port h.p0 h.r0).1
theorem Twin.ZaH(h:Twin kv xs ys):bO ys:=fun p hp=>by
 by_cases hd:Gone kv p.1
 .have e:=(h.hole _ hd).2;obtain⟨_,_,h3,h4⟩:=hp;rw[e]at h4;have:p.2<((0:Nat):Int):=h4;omega
 .have hpx:aj xs p:=by
   obtain⟨h1,h2,h3,h4⟩:=hp;rw[<-h.len]at h2;rw[h.at_ h1 h2 hd]at h4;exact⟨h1,h2,h3,h4⟩
  obtain⟨_,k2,_,_⟩:=h.st.wi p ⟨hpx,hd⟩;rw[(h.st.ag.port hpx hd).2];exact(h.st.ag.port k2.1 k2.2).1
theorem Twin.live(h:Twin kv xs ys):fE ys ys.length+kv.length=xs.length:=by
 rw[h.kl,h.len];refine K5 _ fun i hi=> ?_
 constructor
 .intro e;cases hk:dS false kv (i:Nat)with
  |true=>rfl
  |false=>
   have hd:¬Gone kv (i:Nat):=fun e=>by
    have e':dS false kv (i:Nat)=true:=e;rw[hk]at e';cases e'
   have hl:=h.len;have w:=AJ (h.wf (i:Nat) (by omega) (by omega) hd);rw[h.at_ (by omega) (by omega) hd]at e;omega
 .intro e;rw[(h.hole _ e).2];rfl
theorem iw.symm{D:Int->Prop}(k:iw D xs a b)(h:St D xs ys):iw D xs b a:=by
 obtain⟨_,_,h3,_⟩:=h.wi (a,0) ⟨k.px,k.lx⟩;rw[k.w]at h3;exact⟨k.ne.symm,k.ly,k.lx,k.py,k.px,h3⟩
theorem iw.first{D:Int->Prop}(k:iw D xs a b)(h:St D xs ys):iw D xs (au xs a b).1 (au xs a b).2:=by
 unfold au;cases aP (ah xs a).1 (ah xs a).2.1 (ah xs b).1 (ah xs b).2.1==2
 .exact k
 .exact k.symm h
theorem gY{u:ak}(w:Wf u):0<u.2.2.2.2.length/\u.2.2.2.2.length<=4:=by
 have k:=AJ w;obtain⟨x1,x2,x3,x4⟩:=fG w;refine⟨(eG w).2.2.2,?_⟩
 by_cases h9:u.1=9
 .exact(x4 h9).2
 .by_cases h1:u.1=1\/u.1=5\/u.1=6\/u.1=12
  .rw[x1 h1];decide
  .by_cases h2:u.1=8\/u.1=10\/u.1=11
   .rw[x2 h2];decide
   .rw[x3 (by omega)];decide
theorem Pn(wx:Wf (ah xs x))(wy:Wf (ah xs y))(hx:0<=x/\x<(xs.length:Nat))(hy:0<=y/\y<(xs.length:Nat))(hr:rule (ah xs x).1 (ah xs x).2.1 (ah xs y).1 (ah xs y).2.1=c)(hc:1<=c/\c<=7)
  (h6:(ah xs x).1=9->(ah xs y).1=10->(ah xs x).2.2.1<((ah xs y).2.2.2.1.length:Nat)):MB xs c x y:=by
 obtain⟨r1,r2,r3,r4,r5,r6,r7⟩:=eP hr (by omega);obtain⟨x1,x2,x3,x4⟩:=fG wx;obtain⟨y1,y2,y3,y4⟩:=fG wy;have sx:=gY wx;have sy:=gY wy;have inx:∀s:Int,0<=s->s<((ah xs x).2.2.2.2.length:Nat)->aj xs (x,s):=fun s h0 h1=>⟨hx.1,hx.2,h0,h1⟩
 have iny:∀s:Int,0<=s->s<((ah xs y).2.2.2.2.length:Nat)->aj xs (y,s):=fun s h0 h1=>⟨hy.1,hy.2,h0,h1⟩
 refine⟨⟨hx,hy,fun e=> ?_,fun e=> ?_,by omega,by omega,by have:=wf_data wy;omega,fun e=> ?_,fun e=> ?_⟩,fun e=>(r5 e).2,fun e=> ?_⟩
 .have kx:(ah xs x).2.2.2.2.length=3:=x3 (by rcases e with e|e;(have:=r1 e;omega);(have:=r2 e;omega));have ky:(ah xs y).2.2.2.2.length=3:=y3 (by rcases e with e|e;(have:=r1 e;omega);(have:=r2 e;omega));exact⟨inx 1 (by decide) (by omega),inx 2 (by decide) (by omega),iny 1 (by decide) (by omega),iny 2 (by decide) (by omega)⟩
 .have kx:(ah xs x).2.2.2.2.length=3:=x3 (by have:=r3 e;omega);exact⟨inx 1 (by decide) (by omega),inx 2 (by decide) (by omega)⟩
 .obtain⟨a1,a2⟩:=r5 e;refine⟨?_,fun k7=> ?_,fun k7=> ?_⟩
  .rcases a2 with q|q
   .exact iny 1 (by decide) (by rw[y3 (by omega)];decide)
   .exact iny 1 (by decide) (by rw[y2 (by omega)];decide)
  .exact iny 2 (by decide) (by rw[y3 (by omega)];decide)
  .have:=(V5 wy (by omega)).1;omega
 .refine⟨?_,fun k6=> ?_,fun k6=> ?_⟩
  .exact iny 1 (by decide) (by rw[y2 (by have:=r6 e;omega)];decide)
  .exact(FW wy (by have:=r6 e;omega)).1
  .have q:=r6 e;have k9:(ah xs x).1=9:=by omega
   exact⟨(FU wx k9).1,h6 k9 (by omega)⟩
 .have q:=r6 e;refine⟨fun k=>(FW wy k).1,fun k=> ?_⟩;have k9:(ah xs x).1=9:=by omega
  exact⟨(FU wx k9).1,h6 k9 (by omega),k9⟩
theorem uV(h:eO (ah xs x) (ah xs y)=false):(ah xs x).1=9->(ah xs y).1=10->(ah xs x).2.2.1<((ah xs y).2.2.2.1.length:Nat):=fun h9 h10=>by
 unfold eO at h;rw[show((ah xs x).1==9)=true by simpa using h9,show((ah xs y).1==10)=true by simpa using h10]at h;simp only[qG,qP]at h;omega
theorem Ri(hy:(ah xs y).1≠1)(hc:1<=c/\c<=7)(hb:BkV bk)(h7:c=7->(0<=(ah xs x).2.2.1/\(ah xs x).2.2.1<(bk.length:Nat))):∀z∈lH bk xs c x y,z.1≠1:=by
 have hcs:c=1\/c=2\/c=3\/c=4\/c=5\/c=6\/c=7:=by omega
 intro z hz;rcases hcs with rfl|rfl|rfl|rfl|rfl|rfl|rfl
 .cases hz
 .cases hz
 .have hz':z∈[lD xs y]++[lD xs y]++List.replicate ((ah xs y).2.2.2.2.length-1) (bf 4 (ah xs x).2.1 0 [] 3):=hz;rw[List.mem_append,List.mem_append,qX]at hz';rcases hz' with(e|e)|e
  .rw[e];exact hy
  .rw[e];exact hy
  .rw[List.eq_of_mem_replicate e];intro k;cases k
 .have hz':z∈List.replicate ((ah xs y).2.2.2.2.length-1) (bf 5 0 0 [] 1):=hz;rw[List.eq_of_mem_replicate hz'];intro k;cases k
 .have hz':z∈(bif (ah xs y).1==7 then[bf 8 (ah xs y).2.1 (ah xs y).2.2.1 [(ah xs x).2.2.1] 2]else[bf 6 0 (xZ (ah xs y).2.2.1 (kM (ah xs y).2.2.2.1 0) (ah xs x).2.2.1) [] 1]):=hz;cases hk:(ah xs y).1==7 with
  |true=>rw[hk,qG,qX]at hz';rw[hz'];intro k;cases k
  |false=>rw[hk,qH,qX]at hz';rw[hz'];intro k;cases k
 .have hz':z∈(bif (ah xs x).1==6 then[bf 12 (ah xs y).2.1 (kM (ah xs y).2.2.2.1 (bif (ah xs x).2.2.1==0 then 1 else 0)) [] 1]
   else[bf 12 (ah xs y).2.1 (kM (ah xs y).2.2.2.1 (ah xs x).2.2.1) [] 1]++List.replicate ((ah xs x).2.2.2.2.length-1) (bf 3 (ah xs y).2.1 0 [] 3)):=hz
  cases hk:(ah xs x).1==6 with
  |true=>rw[hk,qG,qX]at hz';rw[hz'];intro k;cases k
  |false=>
   rw[hk,qH,List.mem_append,qX]at hz';rcases hz' with e|e
   .rw[e];intro k;cases k
   .rw[List.eq_of_mem_replicate e];intro k;cases k
 .obtain⟨v0,v1⟩:=h7 rfl;have hz':z∈((mJ bk xs x).drop 1).map (bP ((xs.length:Nat)-1)):=hz;obtain⟨w,hw,rfl⟩:=List.mem_map.1 hz';unfold mJ bU at hw;rw[<-List.map_drop]at hw;obtain⟨u,hu,rfl⟩:=List.mem_map.1 hw;obtain⟨i,hi,rfl⟩:=List.mem_iff_getElem.1 hu;have hrt:=hb.rt _ v0 v1;generalize bG bk (ah xs x).2.2.1=t at*;rw[List.length_drop]at hi;rw[List.getElem_drop];have:=hrt ((1+i:Nat):Int) (by omega) (by omega);rw[tL (by omega)]at this;show(jy _ t[1+i]).1≠1;unfold jy;cases bX (t[1+i]).kind
  .exact this
  .exact this
theorem Twin.next(h:Twin kv xs ys)(k:iw (Gone kv) xs x y)(hb:BkV bk)(rx:(ah xs x).1≠1)(ry:(ah xs y).1≠1)(hr:rule (ah xs x).1 (ah xs x).2.1 (ah xs y).1 (ah xs y).2.1=c)(hc:1<=c/\c<=7)(hcl:eO (ah xs x) (ah xs y)=false)
  (h7:c=7->(ah xs x).2.2.1<(bk.length:Nat)/\eX (ah xs x).2.1 (bG bk (ah xs x).2.2.1)=true):MB xs c x y/\MB ys c x y/\(c=7->0<=(ah xs x).2.2.1)/\Twin (fU kv (bR c x y)) (aW bk xs c x y) (dX bk ys c x y)/\(aW bk xs c x y).length=xs.length+(lH bk xs c x y).length:=by
 have hx:0<=x/\x<(xs.length:Nat):=⟨k.px.1,k.px.2.1⟩;have hy:0<=y/\y<(xs.length:Nat):=⟨k.py.1,k.py.2.1⟩;have wx:=h.wf x hx.1 hx.2 k.lx;have wy:=h.wf y hy.1 hy.2 k.ly;have sp:=Pn wx wy hx hy hr hc (uV hcl);have ex:=h.at_ hx.1 hx.2 k.lx;have ey:=h.at_ hy.1 hy.2 k.ly;have sy:MB ys c x y:=Pn (by rw[ex];exact wx) (by rw[ey];exact wy) (by rw[<-h.len];exact hx) (by rw[<-h.len];exact hy) (by rw[ex,ey];exact hr) hc (uV (by rw[ex,ey];exact hcl));have v0:c=7->0<=(ah xs x).2.2.1:=fun e=>(rV wx ((eP hr (by omega)).2.2.2.2.2.2 e).1).1
 have sg:=nQ (bk:=bk) (xs:=xs) (x:=x) (y:=y) hc (by omega);have hln:(aW bk xs c x y).length=xs.length+(lH bk xs c x y).length:=by rw[sg.1,qA]
 have gr:∀i,Gone (fU kv (bR c x y)) i↔Gone kv i\/i∈bR c x y:=fun i=>jB kv _ i
 have ge:Gone (fU kv (bR c x y))=fun i=>Gone kv i\/i∈bR c x y:=funext fun i=>propext (gr i)
 have gxy:∀i,i∈bR c x y->i=x\/i=y:=fun i hi=>by
  unfold bR at hi;cases hq:c==7 with
  |true=>rw[hq,qG,qX]at hi;exact .inl hi
  |false=>rw[hq,qH]at hi;simpa using hi
 have nx:x≠0:=fun e=>rx (by rw[e];exact h.r1)
 have ny:y≠0:=fun e=>ry (by rw[e];exact h.r1)
 have ksig:∀i:Int,0<=i->i<(xs.length:Nat)->(ah (aW bk xs c x y) i).1=(ah xs i).1:=fun i i0 i1=>by
  have:=sg.2 i i0 (by rw[hln];omega);rw[bZ (by omega)]at this;exact congrArg (fun s:Int×Int×Int×List Int×Nat=>s.1) this
 refine⟨sp,sy,v0,?_,hln⟩;refine⟨?_,?_,?_,?_,?_,?_,by omega,?_,ZbI h.kt _,?_,Xl sp.toIntPre h.al h.p0 hc hb.toBkW fun e=>⟨v0 e,(h7 e).1⟩⟩
 .rw[ge];exact Ua h.st k (fun i hi=>(h.dl i hi).2) h.wf hr hc hb.toBkW fun e=>(h7 e).1
 .rw[ge];exact Ub h.wf hx hy k.lx k.ly hr hc hb.toBkW (fun e e9=>by
   have q:=(eP hr (by omega)).2.2.2.2.2.1 e;exact uV hcl e9 (by omega)) h7
 .intro i hi;rcases(gr i).1 hi with e|e
  .have:=h.dl i e;omega
  .rcases gxy i e with e|e<;>omega
 .intro i hi;unfold dX;have hl:=h.len;have hle:=G5 (xs:=ys) bk c x y;have n1:Kg x (bB (kr bk ys c x y) x):=Kg.new hx.1 (by omega);have n2:Kg y (bB (bB (kr bk ys c x y) x) y):=Kg.new hy.1 (by rw[iL];omega);rcases(gr i).1 hi with e|e
  .have q:=(h.hole i e).inter bk c x y;cases c==7
   .exact(q.drop x).drop y
   .exact q.drop x
  .unfold bR at e;cases hq:c==7 with
   |true=>rw[hq,qG,qX]at e;rw[e];exact n1
   |false=>
    rw[hq,qH]at e;have e2:i=x\/i=y:=by simpa using e
    rcases e2 with e2|e2
    .rw[e2];exact n1.drop y
    .rw[e2];exact n2
 .rw[ksig 0 (Int.le_refl 0) (by have:=h.rl;omega)];exact h.r1
 .intro e;rcases(gr 0).1 e with e|e
  .exact h.r0 e
  .rcases gxy 0 e with e|e
   .exact nx e.symm
   .exact ny e.symm
 .intro i i0 i1 hi;have hi2:¬Gone kv i:=fun e=>hi ((gr i).2 (.inl e))
  by_cases hl:i<(xs.length:Nat)
  .rw[ksig i (by omega) hl];exact h.uq i i0 hl hi2
  .have:=sg.2 i (by omega) i1;have hlt:i.toNat-xs.length<(lH bk xs c x y).length:=by omega
   have e:ah (xs++lH bk xs c x y) i=(lH bk xs c x y)[i.toNat-xs.length]:=by
    unfold ah elt;rw[qC,qL (by omega),qB hlt];rfl
   rw[e]at this;have k1:(ah (aW bk xs c x y) i).1=((lH bk xs c x y)[i.toNat-xs.length]).1:=congrArg (fun s:Int×Int×Int×List Int×Nat=>s.1) this;rw[k1];exact Ri ry hc hb (fun e=>⟨v0 e,(h7 e).1⟩) _ (List.getElem_mem hlt)
 .have gf:∀{kv:List (Int×Bool)} {i:Int},¬Gone kv i->dS false kv i=false:=fun {kv i} hi=>by
   cases hq:dS false kv i with
   |true=>exact absurd hq hi
   |false=>rfl
  have c1:nH (gM kv x true) xs.length=nH kv xs.length+1:=by rw[Ba hx.1 (gf k.lx),if_pos hx.2]
  have l1:(gM kv x true).length=kv.length+1:=uh h.kt (gf k.lx);have y1:dS false (gM kv x true) y=false:=by rw[xW,if_neg k.ne];exact gf k.ly
  have c2:nH (gM (gM kv x true) y true) xs.length=nH kv xs.length+2:=by rw[Ba hy.1 y1,if_pos hy.2,c1]
  have l2:(gM (gM kv x true) y true).length=kv.length+2:=by rw[uh (Jw h.kt x) y1,l1]
  have hn:∀i:Int,(xs.length:Int)<=i->dS false (fU kv (bR c x y)) i=false:=fun i hi=>gf fun e=>by
   rcases(gr i).1 e with e|e
   .have:=h.dl i e;omega
   .rcases gxy i e with e|e<;>omega
  rw[hln,A9 hn];have hk:=h.kl;unfold bR;cases c==7
  .show(gM (gM kv x true) y true).length=nH (gM (gM kv x true) y true) xs.length;omega
  .show(gM kv x true).length=nH (gM kv x true) xs.length;omega
end
end Go.Tr
namespace Go.Tr
open Go Go.RowKit
def ZaW(us:List Value):El (hol 5):=(us.getD 0 undef,us.getD 1 undef,us.getD 2 undef,us.getD 3 undef,us.getD 4 undef)
def lK:Nat->List Value->List (El (hol 5))
 |0,_=>[]
 |n+1,us=>ZaW us::lK n (us.drop 5)
theorem x9:∀(n:Nat) (us:bW),(lK n us).length=n
 |0,_=>rfl
 |n+1,us=>by unfold lK;rw[qI,x9 n]
theorem BM:∀(n:Nat) (us:bW),us.length=n*5->(lK n us).flatMap (enc (hol 5))=us.map D.v
 |0,us,h=>by
  have:us=[]:=List.length_eq_zero_iff.1 (by omega);rw[this];rfl
 |n+1,us,h=>by
  match us,h with
  |a::b::c::d::e::us,h=>
   have ih:=BM n us (by simp only[qI]at h;omega);unfold lK;rw[qU];show _++(lK n us).flatMap (enc (hol 5))=_;rw[ih];rfl
  |[],h=>simp at h
  |[_],h=>simp at h;omega
  |[_,_],h=>simp at h;omega
  |[_,_,_],h=>simp at h;omega
  |[_,_,_,_],h=>simp at h;omega
theorem TN.PE{w:World}:∀{vs us:bW} {bs:dF},TN w (vs.map D.v) bs us->us=vs/\bs=[]
 |[],us,bs,h=>by obtain⟨rfl,rfl⟩:=TN.nil.1 h;exact⟨rfl,rfl⟩
 |v::vs,us,bs,h=>by
  rw[List.map_cons]at h;obtain⟨b1,b2,u,us',rfl,rfl,h1,h2⟩:=TN.cons.1 h;obtain⟨rfl,rfl,_⟩:=T1.v.1 h1;obtain⟨rfl,rfl⟩:=TN.PE h2;exact⟨rfl,rfl⟩
theorem Zal{w:World}{x:Value}{ds:List D}{bs:dF}{us:bW}(h:TN w (.v x::ds) bs us):∃us',us=x::us'/\TN w ds bs us':=by
 obtain⟨b1,b2,u,us',e1,e2,h1,h2⟩:=TN.cons.1 h;obtain⟨e3,e4,_⟩:=T1.v.1 h1;exact⟨us',by rw[e1,e3],by rw[e2,e4];exact h2⟩
theorem ZbZ{w:World}{d:D}{ds:List D}{bs:dF}{us:bW}(h:TN w (d::ds) bs us):∃u us' b2,us=u::us'/\TN w ds b2 us':=by
 obtain⟨b1,b2,u,us',e1,e2,h1,h2⟩:=TN.cons.1 h;exact⟨u,us',b2,e1,h2⟩
section
variable {cx:Cx}{β:Nat->Value}{w:World}{R:List eH}
theorem Inv.ZA{g t n:Nat}{xs:aS}{us:bW}(h:Inv cx.w0 cx.F0 w (Tok.res cx β (.row g t 5 aD xs us)::R))(hl:us.length=xs.length*5):
  Inv cx.w0 cx.F0 w (Tok.res cx β (.row g t 5 (hol 5) (lK xs.length us) us)::Tok.res cx β (.nest n aD xs us)::R):=by
 refine Inv.part h fun F hp=> ?_
 obtain⟨hs,bs,us',rfl,hg,hpre⟩:=hp;have hul:us'.length=xs.length*5:=hg.row.1;have e:us=us':=hpre.eq_of_length (by omega);subst e;refine⟨yG (β g),bs,fun b hb=>by simp[hb],fun b hb=>by simp[hb],fun b hb=>hg.out b (kC.1 hb),⟨rfl,[],us,by simp,?_,pR _⟩,⟨hg.tn,hg.own⟩⟩;refine⟨?_,?_,Own.nil _ _,by simp⟩
 .have:=hg.row;show World.ownsRow w 0 t 5 (β g) (lK xs.length us).length us;rw[x9];exact this
 .show TN w ((lK xs.length us).flatMap (enc (hol 5))) [] us;rw[BM _ _ hl];exact TN.scalars hg.tn.EF
def sD(ys:List ak)(us:List Value)(j:Nat):El (hol 5):=(.int .i64 (ah ys (j:Nat)).1,.int .i64 (ah ys (j:Nat)).2.1,.int .i64 (ah ys (j:Nat)).2.2.1,us.getD (j*5+3) undef,us.getD (j*5+4) undef)
theorem AZ:∀{ys:aS} {us:bW} {bs:dF},TN w (ys.flatMap (enc aD)) bs us->us.length=ys.length*5/\((List.range ys.length).map (sD ys us)).flatMap (enc (hol 5))=us.map D.v
 |[],us,bs,h=>by obtain⟨rfl,rfl⟩:=TN.nil.1 h;exact⟨rfl,rfl⟩
 |y::ys,us,bs,h=>by
  rw[qU]at h;obtain⟨b1,b2,u1,u2,rfl,rfl,h1,h2⟩:=TN.append.1 h;have h1':TN w [.v (.int .i64 y.1),.v (.int .i64 y.2.1),.v (.int .i64 y.2.2.1),.sl y.2.2.2.1.length (List.flatMap (enc (.int .i64)) y.2.2.2.1),.sl y.2.2.2.2.length (List.flatMap (enc aK) y.2.2.2.2)] b1 u1:=h1;obtain⟨v1,rfl,k3⟩:=Zal h1';obtain⟨v2,rfl,k4⟩:=Zal k3;obtain⟨v3,rfl,k5⟩:=Zal k4;obtain⟨a4,v4,b4,rfl,k6⟩:=ZbZ k5;obtain⟨a5,v5,b5,rfl,k7⟩:=ZbZ k6;obtain⟨rfl,rfl⟩:=TN.nil.1 k7;obtain⟨k1,k2⟩:=AZ h2;refine⟨by simp only[qA,qI,qR];omega,?_⟩
  rw[qI,List.range_succ_eq_map,List.map_cons,qU,List.map_map]
  have e:(List.range ys.length).map (sD (y::ys) ([.int .i64 y.1,.int .i64 y.2.1,.int .i64 y.2.2.1,a4,a5]++u2)∘Nat.succ)=(List.range ys.length).map (sD ys u2):=List.map_congr_left fun j _=>by
   have e1:ah (y::ys) ((j.succ:Nat):Int)=ah ys (j:Nat):=by unfold ah elt;rw[qK,qK];rfl
   have e2:∀o:Nat,([.int .i64 y.1,.int .i64 y.2.1,.int .i64 y.2.2.1,a4,a5]++u2:List Value).getD (j.succ*5+o) undef=u2.getD (j*5+o) undef:=fun o=>by
    rw[qC,qL (by simp only[qI,qR];omega),qC];simp only[qI,qR];rw[show j.succ*5+o-(0+1+1+1+1+1)=j*5+o by omega]
   simp only[Function.comp,sD];rw[e1,e2,e2]
  have e':(List.range ys.length).map (sD (y::ys) (Value.int .i64 y.1::Value.int .i64 y.2.1::Value.int .i64 y.2.2.1::a4::a5::[]++u2)∘Nat.succ)=(List.range ys.length).map (sD ys u2):=e;rw[e',k2,qZ];rfl
theorem Inv.merge{gA gB t t' n:Nat}{xs ys:aS}{usA usB preA:bW}{hs:List (El (hol 5))}(h:Inv cx.w0 cx.F0 w (Tok.res cx β (.row gA t 5 (hol 5) (lK xs.length usA++hs) preA)::Tok.res cx β (.nest n aD xs usA)::Tok.res cx β (.row gB t' 5 aD ys usB)::R))
  (hlA:usA.length=xs.length*5) (hlB:usB.length=ys.length*5) (h0:0<ys.length) (hh:hs=(List.range (ys.length-1)).map fun j=>sD ys usB (j+1)):
  Inv cx.w0 cx.F0 w (Tok.res cx β (.row gA t 5 aD (xs++ys.drop 1) usA)::R):=by
 have hB:=h.perm ((List.Perm.cons _ (List.Perm.swap _ _ _)).trans (List.Perm.swap _ _ _));obtain⟨F,hp,k,_⟩:=hB.take1;obtain⟨_,bs,us',rfl,hg,hpre⟩:=hp;have hul:us'.length=ys.length*5:=hg.row.1;have e:usB=us':=hpre.eq_of_length (by omega);subst e
 match ys,h0,hg,hh,hlB with
 |y::ys,h0,hg,hh,hlB=>
  have htn:TN w ((y::ys).flatMap (enc aD)) bs usB:=hg.tn;obtain⟨q1,q2⟩:=AZ htn;rw[qU]at htn;obtain⟨b1,b2,u1,u2,rfl,rfl,h1,h2⟩:=TN.append.1 htn
  have hu1:u1.length=5:=by
   have:=(AZ h2).1;rw[qA]at q1;simp only[qI]at q1;omega
  have hcell:hs.flatMap (enc (hol 5))=u2.map D.v:=by
   rw[qI,List.range_succ_eq_map,List.map_cons,qU,List.map_map,qZ]at q2;have l1:(enc (hol 5) (sD (y::ys) (u1++u2) 0)).length=(u1.map D.v).length:=by rw[qV,hu1];rfl
   have:=(List.append_inj q2 l1).2;rw[hh];exact this
  have hN:Inv cx.w0 cx.F0 w (dU u2 (ys.flatMap (enc aD))::Tok.res cx β (.row gA t 5 (hol 5) (lK xs.length usA++hs) preA)::Tok.res cx β (.nest n aD xs usA)::R):=k _ b2 (fun b hb=>by simp[hb]) ⟨h2,(Own.parts hg.own).2.1⟩
  have hM:Inv cx.w0 cx.F0 w (dU (usA++u2) (xs.flatMap (enc aD)++ys.flatMap (enc aD))::Tok.res cx β (.row gA t 5 (hol 5) (lK xs.length usA++hs) preA)::R):=by
   have:Inv cx.w0 cx.F0 w (dU usA (xs.flatMap (enc aD))::dU u2 (ys.flatMap (enc aD))::Tok.res cx β (.row gA t 5 (hol 5) (lK xs.length usA++hs) preA)::R):=hN.perm (by
    refine(List.Perm.cons _ (List.Perm.swap _ _ _)).trans (List.Perm.swap _ _ _))
   exact this.oM
  refine hM.swap.join fun F1 F2 hp1 hp2 hd=> ?_
  obtain⟨_,bA,uA,rfl,gA',_⟩:=hp1;have hAtn:TN w ((lK xs.length usA++hs).flatMap (enc (hol 5))) bA uA:=gA'.tn;rw[List.flatMap_append,BM _ _ hlA,hcell,<-qZ]at hAtn;obtain⟨rfl,rfl⟩:=TN.PE hAtn;have hhl:hs.length=ys.length:=by rw[hh,qV,List.length_range];rfl
  refine⟨yG (β gA)++F2,fun b hb=>by
   rcases List.mem_append.1 hb with hb|hb
   .exact .inl (by simp[hb])
   .exact .inr hb,⟨rfl,F2,usA++u2,rfl,⟨?_,?_,hp2.2,fun k hk hm=>hd k (by simp[kC.2 hk]) hm⟩,List.prefix_append _ _⟩⟩
  .have:=gA'.row;show World.ownsRow w 0 t 5 (β gA) (xs++ys).length (usA++u2);rw[show(lK xs.length usA++hs).length=(xs++ys).length by rw[qA,x9,hhl,qA]]at this;exact this
  .have:=hp2.1;rw[<-List.flatMap_append]at this;exact this
end
end Go.Tr
namespace Go.Tr
open Go Go.RowKit
def tu(b:Int)(t:List ak):Nat->List ak
 |0=>t
 |k+1=>(tu b t k).set (1+k) (bP b (ah t ((1+k:Nat):Int)))
def Rb(b:Int)(a:ak)(j:Nat):ak:=(a.1,a.2.1,a.2.2.1,a.2.2.2.1,gX b a.2.2.2.2 j)
def Er(b:Int)(t:List ak)(k j:Nat):List ak:=(tu b t k).set (1+k) (Rb b (ah t ((1+k:Nat):Int)) j)
section
variable {b:Int}{t:aS}
theorem sK:∀k,(tu b t k).length=t.length
 |0=>rfl
 |k+1=>by unfold tu;rw[List.length_set,sK k]
theorem Pv(k j:Nat):(Er b t k j).length=t.length:=by unfold Er;rw[List.length_set,sK k]
theorem Af:∀(k i:Nat),(tu b t k)[i]? =if 1<=i/\i<=k then(t[i]?).map (bP b)else t[i]?
 |0,i=>by rw[if_neg (by omega)];rfl
 |k+1,i=>by
  unfold tu;rw[List.getElem?_set,sK,Af k i]
  by_cases h:1+k=i
  .subst h;rw[if_pos (rfl:1+k=1+k)]
   by_cases h2:1+k<t.length
   .rw[if_pos h2,if_pos (by omega:1<=1+k/\1+k<=k+1),qB h2];show _=some (bP b _)
    congr 2
    unfold ah elt;rw[qK,qC,qB h2];rfl
   .rw[if_neg h2,if_pos (by omega:1<=1+k/\1+k<=k+1),List.getElem?_eq_none (by omega)];rfl
  .rw[if_neg h]
   by_cases h2:1<=i/\i<=k
   .rw[if_pos h2,if_pos (by omega)]
   .rw[if_neg h2,if_neg (by omega)]
theorem zB(xs:aS)(i:Nat):ah xs (i:Nat)=(xs[i]?).getD (dflt aD):=by
 unfold ah elt;rw[qK,qC]
theorem ZH{k i:Nat}(h:k<i):ah (tu b t k) (i:Nat)=ah t (i:Nat):=by
 rw[zB,zB,Af,if_neg (by omega)]
theorem Ut(k i:Nat):(ah (tu b t k) (i:Nat)).1=(ah t (i:Nat)).1/\(ah (tu b t k) (i:Nat)).2.1=(ah t (i:Nat)).2.1/\(ah (tu b t k) (i:Nat)).2.2.1=(ah t (i:Nat)).2.2.1:=by
 rw[zB,zB,Af];split
 .cases t[i]? <;>exact⟨rfl,rfl,rfl⟩
 .exact⟨rfl,rfl,rfl⟩
theorem Rf(k:Nat)(us:bW)(i:Nat):sD (tu b t k) us i=sD t us i:=by
 obtain⟨h1,h2,h3⟩:=Ut (b:=b) (t:=t) k i;unfold sD;rw[h1,h2,h3]
theorem Uq{k j:Nat}(h:1+k<t.length):ah (Er b t k j) ((1+k:Nat):Int)=Rb b (ah t ((1+k:Nat):Int)) j:=by
 unfold Er;rw[lu,if_pos ⟨by rw[qK],by rw[sK];exact h⟩]
theorem Us(k:Nat):Er b t k 0=tu b t k:=by
 unfold Er;apply List.ext_getElem?;intro i;rw[List.getElem?_set,sK]
 by_cases h:1+k=i
 .subst h;rw[if_pos (rfl:1+k=1+k),Af,if_neg (by omega:¬(1<=1+k/\1+k<=k))]
  by_cases h2:1+k<t.length
  .rw[if_pos h2,qB h2]
   congr 1
   rw[zB,qB h2];unfold Rb gX;simp
  .rw[if_neg h2,List.getElem?_eq_none (by omega)]
 .rw[if_neg h]
theorem Xt(k:Nat):Er b t k (ah t ((1+k:Nat):Int)).2.2.2.2.length=tu b t (k+1):=by
 show(tu b t k).set (1+k) (Rb b (ah t ((1+k:Nat):Int)) (ah t ((1+k:Nat):Int)).2.2.2.2.length)=(tu b t k).set (1+k) (bP b (ah t ((1+k:Nat):Int)))
 congr 1
 unfold Rb bP;rw[BA]
theorem Ur{k j:Nat}(h:1+k<t.length)(hj:j<(ah t ((1+k:Nat):Int)).2.2.2.2.length){z:Int}(hz:z=(elt (dflt aK) (ah t ((1+k:Nat):Int)).2.2.2.2 (j:Nat)).1+b):
  (Er b t k j).set (1+k) ((ah (Er b t k j) ((1+k:Nat):Int)).1,(ah (Er b t k j) ((1+k:Nat):Int)).2.1,(ah (Er b t k j) ((1+k:Nat):Int)).2.2.1,(ah (Er b t k j) ((1+k:Nat):Int)).2.2.2.1,(ah (Er b t k j) ((1+k:Nat):Int)).2.2.2.2.set j (z,(elt (dflt aK) (ah (Er b t k j) ((1+k:Nat):Int)).2.2.2.2 (j:Nat)).2))=Er b t k (j+1):=by
 rw[Uq h];unfold Er;rw[List.set_set]
 congr 1
 unfold Rb;rw[y9 hj,Ae hj,hz]
theorem ZG{k j:Nat}(h:1+k<t.length)(hj:j<(ah t ((1+k:Nat):Int)).2.2.2.2.length):elt (dflt aK) (ah (Er b t k j) ((1+k:Nat):Int)).2.2.2.2 (j:Nat)=elt (dflt aK) (ah t ((1+k:Nat):Int)).2.2.2.2 (j:Nat):=by
 rw[Uq h];exact Ae hj
theorem Uu:(tu b t (t.length-1)).drop 1=(t.drop 1).map (bP b):=by
 apply List.ext_getElem?;intro i;rw[List.getElem?_drop,qY,List.getElem?_drop,Af]
 by_cases h:1+i<t.length
 .rw[if_pos (by omega)]
 .rw[List.getElem?_eq_none (by omega:t.length<=1+i)];split<;>rfl
def MX(t:List ak)(us:List Value)(k:Nat):List (El (hol 5)):=(List.range k).map fun j=>sD t us (j+1)
theorem Tg(us:bW)(k:Nat):MX t us (k+1)=MX t us k++[sD t us (1+k)]:=by
 unfold MX;rw[List.range_succ,qZ,Nat.add_comm 1 k];rfl
theorem WY(us:bW)(k:Nat):(MX t us k).length=k:=by unfold MX;simp
theorem WX{us:bW}(k:Nat):MX t us k=(List.range k).map fun j=>sD (tu b t k) us (j+1):=by
 unfold MX;exact List.map_congr_left fun j _=>(Rf _ _ _).symm
end
end Go.Tr
namespace Go.Tr
open Go Go.RowKit
structure rZ(bk:List (List ak)):Prop extends BkV bk where
 tl:∀v:Int,0<=v->v<(bk.length:Nat)->(bG bk v).length<=600
 bl:bk.length<=1000
section
variable {bk:iQ}
theorem Kq{v:Int}(h:¬(0<=v/\v<(bk.length:Nat)))(h0:0<=v):bG bk v=[]:=by
 unfold bG elt;rw[qC,List.getElem?_eq_none (by omega)];rfl
theorem wo{xs:aS}{i:Nat}(h:xs.length<=i):ah xs (i:Nat)=dflt aD:=by
 unfold ah elt;rw[qC,qK,List.getElem?_eq_none h];rfl
theorem rZ.len(h:rZ bk)(v:Nat):(bG bk (v:Nat)).length<=600:=by
 by_cases hv:0<=((v:Nat):Int)/\((v:Nat):Int)<(bk.length:Nat)
 .exact h.tl _ hv.1 hv.2
 .rw[Kq hv (by omega)];decide
theorem rZ.ag(h:rZ bk)(v j:Nat):(0<=(ah (bG bk (v:Nat)) (j:Nat)).2.1/\(ah (bG bk (v:Nat)) (j:Nat)).2.1<=8)/\(ah (bG bk (v:Nat)) (j:Nat)).2.2.2.1.length<=4/\(ah (bG bk (v:Nat)) (j:Nat)).2.2.2.2.length<=4:=by
 by_cases hv:0<=((v:Nat):Int)/\((v:Nat):Int)<(bk.length:Nat)
 .by_cases hj:j<(bG bk (v:Nat)).length
  .have w:=h.wf _ hv.1 hv.2 (j:Nat) (by omega) (by omega);have h1:=xE w;exact⟨by omega,wf_data w,(gY w).2⟩
  .rw[wo (by omega)];decide
 .rw[Kq hv (by omega),wo (Nat.zero_le _)];decide
theorem rZ.small(h:rZ bk)(v:Nat):dK (bG bk (v:Nat)):=by
 refine⟨by have:=h.len v;omega,fun i=> ?_⟩;have:=(h.ag v i).2;exact⟨by show(ah (bG bk (v:Nat)) (i:Nat)).2.2.2.1.length<=1048576;omega,by show(ah (bG bk (v:Nat)) (i:Nat)).2.2.2.2.length<=1048576;omega⟩
theorem rZ.ok(h:rZ bk):Iz bk:=fun v j=>(h.ag v j).1
theorem Vi{t:aS}(hw:gL (fun p=>aj t p) t)(hl:t.length<=600)(i j:Nat):AQ (elt (dflt aK) (ah t (i:Nat)).2.2.2.2 (j:Nat)).1:=by
 by_cases hi:i<t.length
 .by_cases hj:j<(ah t (i:Nat)).2.2.2.2.length
  .obtain⟨_,h2,_⟩:=hw ((i:Nat),(j:Nat)) ⟨by show(0:Int)<=(i:Nat);omega,by show((i:Nat):Int)<(t.length:Nat);omega,by show(0:Int)<=(j:Nat);omega,by show((j:Nat):Int)<((ah t (i:Nat)).2.2.2.2.length:Nat);omega⟩;have h3:0<=(elt (dflt aK) (ah t (i:Nat)).2.2.2.2 (j:Nat)).1:=h2.1;have h4:(elt (dflt aK) (ah t (i:Nat)).2.2.2.2 (j:Nat)).1<(t.length:Nat):=h2.2.1;have h5:((t.length:Nat):Int)<=1000000:=by omega
   exact⟨h3,Int.le_trans (Int.le_of_lt h4) h5⟩
  .unfold elt;rw[qC,qK,List.getElem?_eq_none (by omega)];exact⟨by decide,by decide⟩
 .rw[wo (by omega)];have e:elt (dflt aK) (dflt aD).2.2.2.2 ((j:Nat):Int)=(0,0):=rfl;rw[e];exact⟨by decide,by decide⟩
structure ExpF(t xs:List ak)(lv b:Int):Prop where
 two:2<=t.length
 r0:aj t (0,0)
 rs:aj (bU lv t) (0,0)
 top:aj (xs++((bU lv t).drop 1).map (bP b)) ((ay (bU lv t) (0,0)).1+b,(ay (bU lv t) (0,0)).2)
 pe:ay (bU lv t) (0,0)=ay t (0,0)
 ex:oC lv b t (t.length-1)=((bU lv t).drop 1).map (bP b)
 bt:∀i j:Nat,AQ (elt (dflt aK) (ah t (i:Nat)).2.2.2.2 (j:Nat)).1
 bs:∀i j:Nat,AQ (elt (dflt aK) (ah (bU lv t) (i:Nat)).2.2.2.2 (j:Nat)).1
 ps:∀i:Nat,(ah (bU lv t) (i:Nat)).2.2.2.2.length<=1048576
theorem rZ.exp(h:rZ bk){v:Int}(v0:0<=v)(v1:v<(bk.length:Nat))(xs:aS)(lv b:Int)(hb:b=(xs.length:Int)-1)(hx:0<xs.length):ExpF (bG bk v) xs lv b:=by
 have hw:=h.wi _ v0 v1;have r0:=h.r0 _ v0 v1;have r1:=h.r1 _ v0 v1;have hl:=h.tl _ v0 v1
 have hps:∀i:Nat,(ah (bG bk v) (i:Nat)).2.2.2.2.length<=4:=fun i=>by
  have:=(h.ag v.toNat i).2.2
  rwa[show((v.toNat:Nat):Int)=v by omega]at this
 generalize bG bk v=t at*;have hws:gL (fun p=>aj (bU lv t) p) (bU lv t):=hw.shift;obtain⟨q1,q2,q3,q4⟩:=hw (0,0) r0
 have rpos:1<=(ay t (0,0)).1:=by
  have h1:0<=(ay t (0,0)).1:=q2.1
  by_cases e:(ay t (0,0)).1=0
  .exact absurd (r1 _ q2 e) q4
  .omega
 have ps:ay (bU lv t) (0,0)=ay t (0,0):=oH r0;refine⟨?_,r0,aj.gV.2 r0,?_,ps,?_,Vi hw hl,Vi hws (by rw[lZ];exact hl),fun i=> ?_⟩
 .have:=q2.2.1;omega
 .rw[ps]
  exact(aj.jG hb).2 (.inr ⟨by show(xs.length:Int)<=(ay t (0,0)).1+b;omega,aj.gV.2 (by
   rw[show(((ay t (0,0)).1+b,(ay t (0,0)).2):aC).1-b=(ay t (0,0)).1 by show(ay t (0,0)).1+b-b=_;omega];exact q2)⟩)
 .unfold oC;rw[qN (by rw[List.length_drop,lZ];omega)]
 .by_cases hi:i<t.length
  .rw[uR lv t (by omega) (by omega),show(jy lv (ah t (i:Nat))).2.2.2.2=(ah t (i:Nat)).2.2.2.2 from pV _ _];have:=hps i;show(ah t (i:Nat)).2.2.2.2.length<=1048576;omega
  .rw[wo (by rw[lZ];omega)];decide
theorem iK(u v:ak):aR v u=aR u v:=by
 have h1:eO v u=iZ u v:=by
  unfold eO iZ;cases u.1==10<;>cases v.1==9<;>rfl
 have h2:iZ v u=eO u v:=by
  unfold eO iZ;cases u.1==9<;>cases v.1==10<;>rfl
 unfold aR;rw[h1,h2,nY];cases iZ u v<;>cases eO u v<;>rfl
theorem fq(xs:aS)(a b:Int):aR (ah xs (au xs a b).1) (ah xs (au xs a b).2)=aR (ah xs a) (ah xs b):=by
 unfold au;cases aP (ah xs a).1 (ah xs a).2.1 (ah xs b).1 (ah xs b).2.1==2
 .rfl
 .exact iK _ _
theorem UF{xs:aS}{c x y:Int}(hb:rZ bk)(hy:(ah xs y).2.2.2.2.length<=4)(hx:(ah xs x).2.2.2.2.length<=4)(h7:c=7->0<=(ah xs x).2.2.1/\(ah xs x).2.2.1<(bk.length:Nat)):(lH bk xs c x y).length<=600:=by
 unfold lH;cases c==3
 case true=>simp only[qG,qA,qI,qR,List.length_replicate];omega
 cases c==4
 case true=>simp only[qG,qH,List.length_replicate];omega
 cases c==5
 case true=>cases (ah xs y).1==7<;>simp
 cases c==6
 case true=>
  cases (ah xs x).1==6
  .simp only[qG,qH,qA,qI,qR,List.length_replicate];omega
  .simp
 cases h:c==7
 .simp
 .obtain⟨v0,v1⟩:=h7 (by simpa using h);have:=hb.tl _ v0 v1;simp only[qG,qH,qV,List.length_drop,mJ,lZ];omega
end
end Go.Tr
namespace Go.Tr
open Go Go.RowKit
abbrev oU:=Int×Int×Int×List Int×Nat
def toA(s:oU):ak:=(s.1,s.2.1,s.2.2.1,s.2.2.2.1,List.replicate s.2.2.2.2 (0,0))
theorem Dk(s:oU):sig (toA s)=s:=by
 unfold sig toA;simp only[List.length_replicate]
theorem eB.maps{xs ys:aS}(h:eB xs ys):xs.map sig=ys.map sig:=by
 apply List.ext_getElem?;intro i;rw[qY,qY]
 by_cases hi:i<xs.length
 .have:=h.2 (i:Nat) (by omega) (by omega);have hj:i<ys.length:=by rw[<-h.1];exact hi
  rw[tL hi,tL hj]at this;rw[qB hi,qB hj,Option.map_some,Option.map_some,this]
 .rw[List.getElem?_eq_none (by omega),List.getElem?_eq_none (by rw[<-h.1];omega)]
def lI(bk:List (List ak))(c:Int)(u v:ak):List ak:=lH bk [u,v] c 0 1
section
variable {bk:iQ}{xs:aS}{x y c:Int}{u v u' v' a b:ak}
theorem Ik(b:Int)(a:ak):sig (bP b a)=sig a:=by
 unfold sig bP;simp only[qV]
theorem wV:(lH bk xs c x y).map sig=(lI bk c (ah xs x) (ah xs y)).map sig:=by
 unfold lI lH;have e0:ah [ah xs x,ah xs y] 0=ah xs x:=rfl;have e1:ah [ah xs x,ah xs y] 1=ah xs y:=rfl;unfold lD mJ;rw[e0,e1];cases c==3
 case true=>rfl
 cases c==4
 case true=>rfl
 cases c==5
 case true=>rfl
 cases c==6
 case true=>rfl
 cases c==7
 case false=>rfl
 simp only[qG,qH,List.map_map];exact List.map_congr_left fun z _=>by rw[Function.comp,Function.comp,Ik,Ik]
theorem BD(hu:sig u=sig u')(hv:sig v=sig v'):(lI bk c u v).map sig=(lI bk c u' v').map sig:=by
 unfold sig at hu hv;simp only[Prod.mk.injEq]at hu hv;obtain⟨u1,u2,u3,u4,u5⟩:=hu;obtain⟨v1,v2,v3,v4,v5⟩:=hv;unfold lI lH lD mJ;have e0:∀p q:ak,ah [p,q] 0=p:=fun _ _=>rfl
 have e1:∀p q:ak,ah [p,q] 1=q:=fun _ _=>rfl
 rw[e0,e1,e0,e1,u1,u2,u3,u5,v1,v2,v3,v4,v5];rfl
theorem uW(hu:sig u=sig u')(hv:sig v=sig v'):aR u v=aR u' v':=by
 unfold sig at hu hv;simp only[Prod.mk.injEq]at hu hv;obtain⟨u1,u2,u3,u4,u5⟩:=hu;obtain⟨v1,v2,v3,v4,v5⟩:=hv;unfold aR eO iZ;rw[u1,u2,u3,u4,v1,v2,v3,v4]
def Db(bk:List (List ak))(a b:ak):List oU:=bif aP a.1 a.2.1 b.1 b.2.1==2 then(lI bk (aR a b) b a).map sig else(lI bk (aR a b) a b).map sig
theorem Ai(hu:sig u=sig u')(hv:sig v=sig v'):Db bk u v=Db bk u' v':=by
 unfold Db;rw[uW hu hv,BD hu hv,BD hv hu];unfold sig at hu hv;simp only[Prod.mk.injEq]at hu hv;rw[hu.1,hu.2.1,hv.1,hv.2.1]
structure Duo(a b:ak):Prop where
 wa:Wf a
 wb:Wf b
 ra:a.1≠1
 rb:b.1≠1
 ok:aR a b≠8
theorem Duo.sigs(h:Duo u v)(hu:sig u=sig u')(hv:sig v=sig v'):Duo u' v':=by
 have k1:u'.1=u.1:=by have:=congrArg (fun s:oU=>s.1) hu;exact this.symm
 have k2:v'.1=v.1:=by have:=congrArg (fun s:oU=>s.1) hv;exact this.symm
 exact⟨(FV hu).1 h.wa,(FV hv).1 h.wb,by rw[k1];exact h.ra,by rw[k2];exact h.rb,by rw[<-uW hu hv];exact h.ok⟩
theorem Xx(h:Duo a b):Db bk a b=Db bk b a:=by
 have hp:=uE h.wa h.wb h.ra h.rb;have hq:=uE h.wb h.wa h.rb h.ra;have hc:aT a.1 a.2.1 b.1 b.2.1≠8:=fun e=>h.ok (by unfold aR;rw[e];cases eO a b<;>cases iZ a b<;>rfl)
 have hcs:aR a b=aT a.1 a.2.1 b.1 b.2.1:=by
  have:=h.ok;unfold aR at this |-;cases h1:eO a b with
  |true=>rw[h1]at this;exact absurd rfl this
  |false=>
   cases h2:iZ a b with
   |true=>rw[h1,h2]at this;exact absurd rfl this
   |false=>rfl
 have hsym:=nY a.1 a.2.1 b.1 b.2.1;unfold Db;rw[iK a b,hcs];unfold aP;unfold aT at hc hsym |-;rw[hp,if_pos rfl]at hc;rw[hp,hq,if_pos rfl,if_pos rfl]at hsym;rw[hp,hq,if_pos rfl,if_pos rfl,if_pos rfl]
 by_cases r1:rule a.1 a.2.1 b.1 b.2.1=0
 .by_cases r2:rule b.1 b.2.1 a.1 a.2.1=0
  .simp only[if_pos r1,if_pos r2]at hc;exact absurd rfl hc
  .simp only[if_pos r1,if_neg r2];rfl
 .by_cases r2:rule b.1 b.2.1 a.1 a.2.1=0
  .simp only[if_neg r1,if_pos r2];rfl
  .simp only[if_neg r1,if_neg r2]at hsym;simp only[if_neg r1,if_neg r2];show(lI bk (rule a.1 a.2.1 b.1 b.2.1) a b).map sig=(lI bk (rule a.1 a.2.1 b.1 b.2.1) b a).map sig;obtain⟨p1,p2,p3,p4,p5,p6,p7⟩:=eP rfl r1;obtain⟨q1,q2,q3,q4,q5,q6,q7⟩:=eP rfl r2;rw[hsym]at q1 q2 q3 q4 q5 q6 q7;have hr:=nS a.1 a.2.1 b.1 b.2.1;generalize hg:rule a.1 a.2.1 b.1 b.2.1=c at*;have hcc:c=1\/c=2\/c=3\/c=4\/c=5\/c=6\/c=7:=by omega
   rcases hcc with rfl|rfl|rfl|rfl|rfl|rfl|rfl
   .have:=p1 rfl;have:=q1 rfl;omega
   .rfl
   .exfalso;have ka:=p3 rfl;have kb:=q3 rfl;unfold rule at hg hsym;rw[ka,kb]at hg hsym;rw[if_neg (by decide),if_pos rfl]at hg hsym;cases hl:(((4:Int)==4)&&a.2.1==b.2.1)with
    |true=>rw[hl]at hg;simp at hg
    |false=>
     rw[hl]at hg
     have hl2:(((4:Int)==4)&&b.2.1==a.2.1)=false:=by
      rw[<-hl];congr 1;rw[Bool.eq_iff_iff];simp only[beq_iff_eq];exact⟨Eq.symm,Eq.symm⟩
     rw[hl2]at hsym;simp only[Bool.false_eq_true,if_false]at hg hsym
     have d1:tT a.2.1 4 b.2.1=true:=by
      cases hd:tT a.2.1 4 b.2.1 with
      |true=>rfl
      |false=>rw[hd]at hg;simp at hg
     have d2:tT b.2.1 4 a.2.1=true:=by
      cases hd:tT b.2.1 4 a.2.1 with
      |true=>rfl
      |false=>rw[hd]at hsym;simp at hsym
     have:=xO d1;have:=xO d2;omega
   .have ka:=p4 rfl;have kb:=q4 rfl;have na:=(fG h.wa).1 (.inr (.inl ka));have nb:=(fG h.wb).1 (.inr (.inl kb));show(List.replicate (b.2.2.2.2.length-1) (bf 5 0 0 [] 1)).map sig=(List.replicate (a.2.2.2.2.length-1) (bf 5 0 0 [] 1)).map sig;rw[na,nb]
   .have:=p5 rfl;have:=q5 rfl;omega
   .have:=p6 rfl;have:=q6 rfl;omega
   .have:=p7 rfl;have:=q7 rfl;omega
theorem Eb(hc:1<=aR (ah xs x) (ah xs y)/\aR (ah xs x) (ah xs y)<=7){z w:Int}(hz:z.toNat<xs.length)(hf:au xs x y=(z,w)):(aW bk xs (aR (ah xs z) (ah xs w)) z w).map sig=xs.map sig++Db bk (ah xs x) (ah xs y):=by
 have hcl:aR (ah xs z) (ah xs w)=aR (ah xs x) (ah xs y):=by
  have:=fq xs x y;rw[hf]at this;exact this
 rw[hcl,(nQ (bk:=bk) (y:=w) hc hz).maps,qZ,wV]
 congr 1
 unfold au at hf;unfold Db;cases hp:aP (ah xs x).1 (ah xs x).2.1 (ah xs y).1 (ah xs y).2.1==2 with
 |true=>
  rw[hp]at hf;injection hf with h1 h2
  subst h1 h2;rfl
 |false=>
  rw[hp]at hf;injection hf with h1 h2
  subst h1 h2;rfl
end
def VH(s:List oU)(i:Int):oU:=s.getD i.toNat (0,0,0,[],0)
def vL(s:List oU)(i:Int):ak:=toA (VH s i)
inductive yR(bk:List (List ak)):List oU->List aB->List oU->Prop
 |done (s:List oU):yR bk s [] s
 |step {s:List oU} {e:aB} {es:List aB} {s':List oU} (h0:0<=e.1) (hlt:e.1<e.2.1) (h1:e.2.1<((s.length:Nat):Int)) (hf:e.2.2.2.1=((s.length:Nat):Int))
  (hn:e.2.2.2.2=(((Db bk (vL s e.1) (vL s e.2.1)).length:Nat):Int)) (hw:Duo (vL s e.1) (vL s e.2.1)) (r:yR bk (s++Db bk (vL s e.1) (vL s e.2.1)) es s'):yR bk s (e::es) s'
end Go.Tr
namespace Go.Tr
open Go Go.RowKit
def uN(f:Int->Int)(p:aC):aC:=(f p.1,p.2)
def Gn(f:Int->Int)(a:ak):ak:=(a.1,a.2.1,a.2.2.1,a.2.2.2.1,a.2.2.2.2.map (uN f))
def mF(ys:List ak)(i:Nat):Bool:=(ah ys (i:Nat)).1 !=0
section
variable {kv:kT}{xs ys:aS}
theorem Twin.mF(h:Twin kv xs ys){k:Nat}(hk:k<xs.length):mF ys k= !(dS false kv ((k:Nat):Int)):=by
 unfold Tr.mF;cases hg:dS false kv ((k:Nat):Int)with
 |true=>
  rw[(h.hole _ hg).2];rfl
 |false=>
  have hd:¬Gone kv ((k:Nat):Int):=fun e=>by
   have e':dS false kv ((k:Nat):Int)=true:=e;rw[hg]at e';cases e'
  rw[h.at_ (by omega) (by omega) hd];have:=AJ (h.wf (k:Nat) (by omega) (by omega) hd);simp;omega
end
end Go.Tr
namespace Go.Tr
open Go Go.RowKit
abbrev fH(e:aB):Int:=e.2.2.2.1
abbrev nD(e:aB):Int:=e.2.2.2.2
def nC:List aB->Int->Int->Int×Int
 |[],_,k=>(-1,k)
 |e::es,i,k=>bif (bif decide (fH e<=k)then decide (k<fH e+nD e)else false)then(i,k-fH e)else nC es (i+1) k
theorem IK{e:aB}{es:List aB}{i k:Int}(h1:fH e<=k)(h2:k<fH e+nD e):nC (e::es) i k=(i,k-fH e):=by
 unfold nC;rw[show decide (fH e<=k)=true by simpa using h1,show decide (k<fH e+nD e)=true by simpa using h2];rfl
theorem CQ{e:aB}{es:List aB}{i k:Int}(h:¬(fH e<=k/\k<fH e+nD e)):nC (e::es) i k=nC es (i+1) k:=by
 conv=>lhs;unfold nC
 cases h1:decide (fH e<=k)with
 |false=>rfl
 |true=>
  cases h2:decide (k<fH e+nD e)with
  |false=>rfl
  |true=>exact absurd ⟨by simpa using h1,by simpa using h2⟩ h
theorem Y7:∀(es:List aB) (i k:Int),(nC es i k).1= -1\/i<=(nC es i k).1
 |[],i,k=>.inl rfl
 |e::es,i,k=>by
  by_cases h:fH e<=k/\k<fH e+nD e
  .rw[IK h.1 h.2];exact .inr (Int.le_refl _)
  .rw[CQ h];have:=Y7 es (i+1) k;omega
theorem Si:∀(es:List aB) (i k:Int),(nC es i k).1= -1\/(nC es i k).1<i+(es.length:Nat)
 |[],i,k=>.inl rfl
 |e::es,i,k=>by
  by_cases h:fH e<=k/\k<fH e+nD e
  .rw[IK h.1 h.2];right;show i<i+((es.length+1:Nat):Int);omega
  .rw[CQ h];have:=Si es (i+1) k;rw[qI];omega
section
variable {bk:iQ}
theorem yR.pre{s s':List oU}{es:List aB}(h:yR bk s es s'):s<+:s':=by
 induction h with
 |done s=>exact pR _
 |step _ _ _ _ _ _ _ ih=>exact(List.prefix_append _ _).trans ih
theorem yR.rng{s s':List oU}{es:List aB}(h:yR bk s es s'):∀e∈es,((s.length:Nat):Int)<=fH e/\0<=nD e/\fH e+nD e<=((s'.length:Nat):Int):=by
 induction h with
 |done s=>intro e he;cases he
 |step h0 hlt h1 hf hn hw r ih=>
  intro e' he';have hp:=r.pre.length_le;rw[qA]at hp;rcases List.mem_cons.1 he' with rfl|he'
  .exact⟨by show _<=e'.2.2.2.1;omega,by show 0<=e'.2.2.2.2;omega,by show e'.2.2.2.1+e'.2.2.2.2<=_;omega⟩
  .have:=ih e' he';rw[qA]at this;omega
end
def I8(p q:Int×Int):Bool:=bT [p.1,p.2] [q.1,q.2]
theorem WT{p q:Int×Int}:I8 p q=true↔p=q:=by
 unfold I8;simp only[bT,Bool.and_true,qD,beq_iff_eq];exact⟨fun h=>Prod.ext h.1 h.2,fun h=>by rw[h];exact⟨rfl,rfl⟩⟩
def wP(u v:Int)(f:aB):Bool:=bif f.1==min u v then f.2.1==max u v else false
def pK(b:List aB)(i:Int):aB:=elt (dflt aV) b i
def dN(f n:Int):List Int:=(List.range n.toNat).map fun j:Nat=>f+(j:Int)
theorem Bq{α:Type}(g:α->Bool):∀(l:List α) (k:Int),0<=k->0<=j6 g l k->∃p x q,l=p++x::q/\j6 g l k=k+((p.length:Nat):Int)/\g x=true
 |[],k,_,h=>by unfold j6 at h;omega
 |x::l,k,hk,h=>by
  unfold j6 at h |-;cases hg:g x with
  |true=>exact⟨[],x,l,rfl,by simp,hg⟩
  |false=>
   rw[hg]at h;simp only[qH]at h |-;obtain⟨p,y,q,e,e2,e3⟩:=Bq g l (k+1) (by omega) h;exact⟨x::p,y,q,by rw[e];rfl,by rw[e2,qI];omega,e3⟩
theorem um(f n:Int):(dN f n).length=n.toNat:=by unfold dN;simp
theorem Lc{f n:Int}{j:Nat}(h:(j:Int)<n):(dN f n)[j]? =some (f+(j:Int)):=by
 unfold dN;rw[qY,List.getElem?_range (by omega)];rfl
section
variable {bk:iQ}{s0 sa sb:List oU}{a b:List aB}
end
end Go.Tr
namespace Go.Tr
open Go Go.RowKit
def gN(xs:List ak):bC:=⟨xs.map gA⟩
theorem Xe(xs:aS):(xs.map gA).flatMap aH.enc=List.flatMap (enc aD) xs:=by
 induction xs with
 |nil=>rfl
 |cons x l ih=>rw[List.map_cons,qU,qU,ih,Zv]
theorem Zw(xs:aS):(gN xs).enc=enc aZ xs:=by
 show[D.sl (xs.map gA).length ((xs.map gA).flatMap aH.enc)]=[D.sl _ _];rw[Xe,qV]
theorem wK(xs:aS)(i:Nat):jL (xs.map gA) i=gA (ah xs (i:Nat)):=by
 unfold jL ah elt;rw[qK,qC,qC,qY];cases xs[i]? <;>rfl
def gP(p:aC):aU:=⟨p.1,p.2⟩
theorem Tx(ps:List aC)(k:Nat):BL (ps.map gP) k=gP (elt (dflt aK) ps (k:Nat)):=by
 unfold BL elt;rw[qK,qC,qC,qY];cases ps[k]? <;>rfl
theorem mY(a:ak):(gA a).aO=a.2.2.2.2.map gP:=rfl
theorem Tz{p q:aC}(h:gP p=gP q):p=q:=by
 have h1:=congrArg aU.agent h;have h2:=congrArg aU.slot h;exact Prod.ext h1 h2
theorem vH{xs:aS}{p:aC}(h:jh (xs.map gA) (gP p)=true):aj xs p:=by
 unfold jh at h;rw[qD,wK,mY]at h;have h1:=iU h.1;have h2:=iU h.2;rw[qV]at h1 h2;have e1:(gP p).agent=p.1:=rfl;have e2:(gP p).slot=p.2:=rfl;rw[e1]at h1 h2;rw[e2]at h2;have e3:((p.1.toNat:Nat):Int)=p.1:=by omega
 rw[e3]at h2;exact⟨by omega,by omega,by omega,by show p.2<((ah xs p.1).2.2.2.2.length:Nat);omega⟩
structure Dq(xs:List ak):Prop where
 l1:1<=xs.length
 l2:xs.length<=600
 wf:∀i:Int,0<=i->i<(xs.length:Nat)->Wf (ah xs i)
 rt:∀i:Int,0<=i->i<(xs.length:Nat)->((ah xs i).1=1↔i=0)
 wi:gL (fun p=>aj xs p) xs
theorem Px{xs:aS}(h:iB (gN xs)=true):Dq xs:=by
 unfold iB at h;have hag:(gN xs).agents=xs.map gA:=rfl;rw[qD,hag,qV]at h;obtain⟨h1,h2⟩:=h;unfold fV at h1;rw[qD,qV]at h1;obtain⟨h3,h4⟩:=h1;have h3:=iU h3;have ha:∀i:Nat,i<xs.length->mO (xs.map gA) i=true:=fun i hi=>qo h4 hi
 have hk:∀i:Nat,i<xs.length->Wf (ah xs (i:Nat))/\((ah xs (i:Nat)).1=1↔i=0):=fun i hi=>by
  have:=ha i hi;unfold mO at this;rw[wK,qD]at this;refine⟨this.1,?_⟩;have h5:=this.2;have e:(gA (ah xs (i:Nat))).kind=(ah xs (i:Nat)).1:=rfl;rw[e,beq_iff_eq,Bool.eq_iff_iff,beq_iff_eq,beq_iff_eq]at h5;omega
 refine⟨by omega,by omega,fun i h0 h1=> ?_,fun i h0 h1=> ?_,?_⟩
 .have:=(hk i.toNat (by omega)).1
  rwa[show((i.toNat:Nat):Int)=i by omega]at this
 .have:=(hk i.toNat (by omega)).2;rw[show((i.toNat:Nat):Int)=i by omega]at this;rw[this];omega
 .rintro⟨a,s⟩ ⟨p1,p2,p3,p4⟩;have q1:0<=a:=p1;have q2:a<(xs.length:Nat):=p2;have q3:0<=s:=p3;have q4:s<((ah xs a).2.2.2.2.length:Nat):=p4;have ea:((a.toNat:Nat):Int)=a:=by omega
  have es:((s.toNat:Nat):Int)=s:=by omega
  have hw:pX (xs.map gA) a.toNat=true:=qo h2 (by omega);unfold pX at hw;rw[wK,ea,mY,qV]at hw;have hw2:=qo hw (k:=s.toNat) (by omega);unfold Qr at hw2;rw[Tx,es]at hw2;have ge:(⟨((a.toNat:Nat):Int),((s.toNat:Nat):Int)⟩:aU)=gP (a,s):=by rw[ea,es];rfl
  simp only[qD,Bool.not_eq_true']at hw2;obtain⟨⟨w1,w2⟩,w3⟩:=hw2;have w1:=DT w1;have w3:=Cn w3;have hin:=vH w2;have hpe:ay xs (a,s)=elt (dflt aK) (ah xs a).2.2.2.2 s:=rfl;rw[<-hpe]at w1 w3 hin;refine⟨⟨p1,p2,p3,p4⟩,hin,?_,fun e=>w1 (by rw[e];rfl)⟩;generalize ay xs (a,s)=r at*;unfold Nv at w3;have er:(gP r).agent=r.1:=rfl;have er2:(gP r).slot=r.2:=rfl;have hr0:=hin.1;have hr2:=hin.2.2.1;rw[er,er2,wK,mY,Tx,show((r.1.toNat:Nat):Int)=r.1 by omega,show((r.2.toNat:Nat):Int)=r.2 by omega]at w3
  exact Tz (q:=(a,s)) w3
theorem Dq.twin{xs:aS}(h:Dq xs):Twin [] xs xs:=by
 have hg:∀i,¬Gone [] i:=fun i e=>by cases e
 have hl1:=h.l1;refine⟨⟨?_,?_,?_⟩,fun i h0 h1 _=>h.wf i h0 h1,fun i e=>absurd e (hg i),fun i e=>absurd e (hg i),(h.rt 0 (Int.le_refl 0) (by omega)).2 rfl,hg 0,h.l1,fun i h0 h1 _ e=> ?_,fun e he=>(by cases he),?_,fun p hp=>(h.wi p hp).2.1⟩
 .exact⟨rfl,fun _ _ _ _=>rfl⟩
 .exact h.wi.congr fun p=>⟨fun k=>k.1,fun k=>⟨k,hg _⟩⟩
 .exact fun p k=>k.2
 .have:=(h.rt i (by omega) h1).1 e;omega
 .have:=A9 (kv:=[]) (n:=0) (fun i _=>rfl) xs.length;rw[Nat.zero_add]at this;rw[this];rfl
theorem Dx(bk:iQ)(k:Nat):Uz (bk.map gN) k=gN (bG bk (k:Nat)):=by
 unfold Uz bG elt;rw[qK,qC,qC,qY];cases bk[k]? <;>rfl
theorem Sl{bk:iQ}(h:jM (bk.map gN)=true):rZ bk/\bk.length<=24:=by
 unfold jM at h;rw[qD,qV]at h
 have hl:bk.length<=24:=by
  have:=of_decide_eq_true h.1;omega
 have hn:∀v:Int,0<=v->v<(bk.length:Nat)->Dq (bG bk v):=fun v h0 h1=>by
  have:=qo h.2 (k:=v.toNat) (by omega);rw[Dx,show((v.toNat:Nat):Int)=v by omega]at this;exact Px this
 refine⟨⟨⟨⟨fun v h0 h1=>(hn v h0 h1).wi,fun v h0 h1=> ?_,fun v h0 h1 p hp e=> ?_,fun v h0 h1=>(hn v h0 h1).wf⟩,fun v h0 h1 i i0 i1 e=> ?_⟩,fun v h0 h1=>(hn v h0 h1).l2,by omega⟩,hl⟩
 .have N:=hn v h0 h1;have hl1:=N.l1;have:=(gY (N.wf 0 (Int.le_refl 0) (by omega))).1;exact⟨Int.le_refl 0,by show(0:Int)<((bG bk v).length:Nat);omega,Int.le_refl 0,by show(0:Int)<((ah (bG bk v) 0).2.2.2.2.length:Nat);omega⟩
 .have N:=hn v h0 h1;have hl1:=N.l1;have w:=N.wf 0 (Int.le_refl 0) (by omega);have hk:=(N.rt 0 (Int.le_refl 0) (by omega)).2 rfl;have hp1:=(fG w).1 (.inl hk);obtain⟨_,_,p3,p4⟩:=hp;rw[e]at p4;have p4':p.2<((ah (bG bk v) 0).2.2.2.2.length:Nat):=p4;exact Prod.ext e (by show p.2=0;omega)
 .have:=((hn v h0 h1).rt i (by omega) i1).1 e;omega
end Go.Tr
