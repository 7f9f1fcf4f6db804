
/- Nets as data: agents, ports, wires. No program in it. -/
import Derived.Test.YtgiceoidjipgmaaGreatVV
import Derived.Test.YtgiceoidjipgmaaGreatNet
set_option linter.unusedSimpArgs false
set_option linter.unusedVariables false
namespace Go.Tr
open Go Go.RowKit
abbrev aR:U:=.pair (.int .i64) (.int .i64)
abbrev aL:U:=.pair (.int .i64) (.pair (.int .i64) (.pair (.int .i64) (.pair (.sl (.int .i64)) (.sl aR))))
abbrev bX:=Int×Int
abbrev ah:=Int×Int×Int×List Int×List bX
def aj(xs:List ah)(i:Int):ah:=elt (dflt aL) xs i
abbrev ah.kind(a:ah):Int:=a.1
abbrev ah.level(a:ah):Int:=a.2.1
abbrev ah.value(a:ah):Int:=a.2.2.1
abbrev ah.data(a:ah):List Int:=a.2.2.2.1
abbrev ah.aH(a:ah):List bX:=a.2.2.2.2
def jr(xs:List ah)(p:bX):bX:=elt (dflt aR) (aj xs p.1).aH p.2
def gI(xs:List ah)(p q:bX):List ah:=xs.set p.1.toNat ((aj xs p.1).1,(aj xs p.1).2.1,(aj xs p.1).2.2.1,(aj xs p.1).2.2.2.1,(aj xs p.1).2.2.2.2.set p.2.toNat q)
def gG(xs:List ah)(p q:bX):List ah:=gI (gI xs p q) q p
def bq(xs:List ah)(p:bX):Prop:=0≤p.1∧p.1<(xs.length:Nat)∧0≤p.2∧p.2<((aj xs p.1).aH.length:Nat)
abbrev vP(p:bX):SV:=.agg [.int .i64 p.1,.int .i64 p.2]
theorem iU(xs:List ah)(p q:bX):(gI xs p q).length=xs.length:=by unfold gI;simp
theorem Bn{xs:List ah}{k:Nat}{y:ah}{i:Int}:aj (xs.set k y) i=if k=i.toNat∧k<xs.length then y else aj xs i:=by
 unfold aj elt;rw[List.getD_eq_getElem?_getD,List.getD_eq_getElem?_getD,List.getElem?_set]
 by_cases h:k=i.toNat
 ·subst h
  by_cases h2:i.toNat<xs.length
  ·simp[h2]
  ·simp[h2]
 ·simp[h]
theorem qV(xs:List ah)(p q:bX)(i:Int):aj (gI xs p q) i=if p.1.toNat=i.toNat∧p.1.toNat<xs.length then((aj xs p.1).1,(aj xs p.1).2.1,(aj xs p.1).2.2.1,(aj xs p.1).2.2.2.1,(aj xs p.1).2.2.2.2.set p.2.toNat q)else aj xs i:=Bn
theorem oz{xs:List ah}{i j:Int}(h:i.toNat=j.toNat):aj xs i=aj xs j:=by unfold aj elt;rw[h]
theorem j6(xs:List ah)(p q:bX)(i:Int):(aj (gI xs p q) i).aH.length=(aj xs i).aH.length:=by
 rw[qV];split
 ·rename_i h;rw[oz h.1.symm];simp[ah.aH]
 ·rfl
theorem bq.set{xs:List ah}{p q r:bX}(h:bq xs r):bq (gI xs p q) r:=by
 unfold bq at h ⊢;rw[iU,j6];exact h
theorem bq.link{xs:List ah}{p q r:bX}(h:bq xs r):bq (gG xs p q) r:=h.set.set
theorem Gb(xs:List ah)(p q:bX):(gG xs p q).length=xs.length:=by unfold gG;rw[iU,iU]
theorem uN{us:List Value}{n:Nat}(hl:us.length=n*5){i:Int}(h0:0≤i)(h1:i<(n:Nat)):i.toNat*5+5≤us.length:=by omega
theorem tZ{us:List Value}{n:Nat}(hl:us.length=n*5){i:Int}(h0:0≤i)(h1:i<(n:Nat)){o:Nat}(ho:o<5):us[i.toNat*5+o]? =some (us.getD (i.toNat*5+o) undef):=by
 rw[List.getD_eq_getElem?_getD,List.getElem?_eq_getElem (by omega)];rfl
def Lc(xs:List ah)(old now:bX):List ah:=gG xs (jr xs old) now
def EX(xs:List ah)(x y:bX):List ah:=bif (jr xs x).1==y.1&&(jr xs x).2==y.2 then xs else gG xs (jr xs x) (jr xs y)
def lV(kind level value:Int)(data:List Int)(n:Nat):ah:=(kind,level,value,data,List.replicate n (0,0))
theorem bD{k:Nat}(h:k<1000000000):IntKind.i64.wrap ((k:Int)+1)=((k+1:Nat):Int):=Gy (by omega)
def nQ(xs:List ah):Prop:=∀p,bq xs p→bq xs (jr xs p)
theorem Ke{α:Type}{d:α}{xs:List α}{k:Nat}{y:α}{i:Int}:elt d (xs.set k y) i=if k=i.toNat∧k<xs.length then y else elt d xs i:=by
 unfold elt;rw[List.getD_eq_getElem?_getD,List.getD_eq_getElem?_getD,List.getElem?_set]
 by_cases h:k=i.toNat
 ·subst h
  by_cases h2:i.toNat<xs.length<;>simp[h2]
 ·simp[h]
theorem Kc{α:Type}{d:α}{xs ys:List α}{i:Int}(h:i.toNat<xs.length):elt d (xs++ys) i=elt d xs i:=by
 unfold elt;rw[List.getD_eq_getElem?_getD,List.getD_eq_getElem?_getD,List.getElem?_append_left h]
theorem Ho{α:Type}{d y:α}{xs:List α}{i:Int}(h:i.toNat=xs.length):elt d (xs++[y]) i=y:=by
 unfold elt;rw[h,List.getD_eq_getElem?_getD];simp
theorem vN{xs ys:List ah}{i:Int}(h:i.toNat<xs.length):aj (xs++ys) i=aj xs i:=Kc h
theorem yQ{y:ah}{xs:List ah}{i:Int}(h:i.toNat=xs.length):aj (xs++[y]) i=y:=Ho h
theorem bq.app{xs ys:List ah}{p:bX}(h:bq xs p):bq (xs++ys) p:=by
 obtain⟨h1,h2,h3,h4⟩:=h;refine⟨h1,by rw[List.length_append];omega,h3,?_⟩;rw[vN (by omega)];exact h4
theorem bq.new{k l v:Int}{d:List Int}{n:Nat}{xs:List ah}{s:Int}(h0:0≤s)(h1:s<(n:Nat)):bq (xs++[lV k l v d n]) ((xs.length:Nat),s):=by
 refine⟨by omega,by rw[List.length_append,List.length_singleton];show((xs.length:Nat):Int)<_;omega,h0,?_⟩;rw[yQ (by simp)];simpa[lV,ah.aH]using h1
theorem Gj{xs ys:List ah}{p:bX}(h:p.1.toNat<xs.length):jr (xs++ys) p=jr xs p:=by unfold jr;rw[vN h]
theorem zw{xs:List ah}{p q r:bX}(hp:bq xs p)(hr:bq xs r):jr (gI xs p q) r=if p=r then q else jr xs r:=by
 obtain⟨p1,p2,p3,p4⟩:=hp;obtain⟨r1,r2,r3,r4⟩:=hr;unfold jr;rw[qV]
 by_cases h:p.1.toNat=r.1.toNat
 ·have e:p.1=r.1:=by omega
  rw[if_pos ⟨h,by omega⟩];show elt (dflt aR) ((aj xs p.1).2.2.2.2.set p.2.toNat q) r.2=_;rw[Ke]
  by_cases h2:p.2.toNat=r.2.toNat
  ·have e2:p.2=r.2:=by omega
   rw[if_pos ⟨h2,by simp only[ah.aH]at p4;omega⟩,if_pos (Prod.ext e e2)]
  ·rw[if_neg (fun hh=>h2 hh.1),if_neg (fun hh=>h2 (by rw[hh])),e]
 ·rw[if_neg (fun hh=>h hh.1),if_neg (fun hh=>h (by rw[hh]))]
theorem DY{xs:List ah}{p q r:bX}(hp:bq xs p)(hq:bq xs q)(hr:bq xs r):jr (gG xs p q) r=if q=r then p else if p=r then q else jr xs r:=by
 unfold gG;rw[zw hq.set hr.set,zw hp hr]
theorem bq.unset{xs:List ah}{p q r:bX}(h:bq (gI xs p q) r):bq xs r:=by
 unfold bq at h ⊢
 rwa[iU,j6]at h
theorem bq.unlink{xs:List ah}{p q r:bX}(h:bq (gG xs p q) r):bq xs r:=h.unset.unset
theorem nQ.link{xs:List ah}{p q:bX}(h:nQ xs)(hp:bq xs p)(hq:bq xs q):nQ (gG xs p q):=fun r hr=>by
 have hr':=hr.unlink;rw[DY hp hq hr'];split
 ·exact hp.link
 ·split
  ·exact hq.link
  ·exact(h r hr').link
theorem nQ.move{xs:List ah}{p q:bX}(h:nQ xs)(hp:bq xs p)(hq:bq xs q):nQ (Lc xs p q):=h.link (h p hp) hq
theorem bq.move{xs:List ah}{p q r:bX}(h:bq xs r):bq (Lc xs p q) r:=h.link
theorem bq.join{xs:List ah}{p q r:bX}(h:bq xs r):bq (EX xs p q) r:=by
 unfold EX;cases ((jr xs p).1==q.1&&(jr xs p).2==q.2)with
 |true=>exact h
 |false=>exact h.link
theorem nQ.join{xs:List ah}{p q:bX}(h:nQ xs)(hp:bq xs p)(hq:bq xs q):nQ (EX xs p q):=by
 unfold EX;cases ((jr xs p).1==q.1&&(jr xs p).2==q.2)with
 |true=>exact h
 |false=>exact h.link (h p hp) (h q hq)
theorem nQ.add{xs:List ah}(h:nQ xs)(h0:bq xs (0,0))(k l v:Int)(d:List Int)(n:Nat):nQ (xs++[lV k l v d n]):=fun r hr=>by
 by_cases hlt:r.1.toNat<xs.length
 ·rw[Gj hlt];obtain⟨r1,r2,r3,r4⟩:=hr;rw[vN hlt]at r4;exact(h r ⟨r1,by omega,r3,r4⟩).app
 ·obtain⟨r1,r2,r3,r4⟩:=hr;rw[List.length_append,List.length_singleton]at r2;have e:r.1.toNat=xs.length:=by omega
  have hp:jr (xs++[lV k l v d n]) r=(0,0):=by
   unfold jr;rw[yQ e]at r4 ⊢;simp only[lV,ah.aH,List.length_replicate]at r4;unfold elt;rw[List.getD_eq_getElem?_getD];simp only[lV,ah.aH];rw[List.getElem?_replicate];split<;>rfl
  rw[hp];exact h0.app
def gA(a:ah):ak:=⟨a.1,a.2.1,a.2.2.1,a.2.2.2.1,a.2.2.2.2.map fun p=>⟨p.1,p.2⟩⟩
theorem rD(l:List Int):List.flatMap (enc (.int .i64)) l=l.flatMap aP:=by
 induction l with
 |nil=>rfl
 |cons x l ih=>rw[List.flatMap_cons,List.flatMap_cons,ih];rfl
theorem FY(l:List bX):(l.map fun p=>(⟨p.1,p.2⟩:aG)).flatMap aG.enc=List.flatMap (enc aR) l:=by
 induction l with
 |nil=>rfl
 |cons x l ih=>rw[List.map_cons,List.flatMap_cons,List.flatMap_cons,ih];rfl
theorem Ak(a:ah):(gA a).enc=enc aL a:=by
 show[_,_,_,D.sl _ _,D.sl _ _]=[_]++([_]++([_]++([_]++[_])));simp only[List.cons_append,List.nil_append,gA];rw[FY,←rD,List.length_map]
abbrev Dh:U:=.pair aR aR
abbrev gK:U:=.pair (.sl aL) (.pair (.int .i64) (.pair aR (.sl aR)))
abbrev aV:U:=.pair (.int .i64) (.pair (.int .i64) (.pair (.sl aR) (.pair (.sl Dh) (.sl (.int .i64)))))
abbrev qm:U:=.pair gK (.pair (.sl aV) (.int .i64))
abbrev ay:=Int×Int
abbrev bE:=List ah×Int×ay×List ay
abbrev dn:=Int×Int×List ay×List (ay×ay)×List Int
abbrev fA:=bE×List dn×Int
def aZ(k:Int):Bool:=bJ k 2 12
def oF(c:ah):ah:=(c.1,c.2.1,c.2.2.1,c.2.2.2.1,List.replicate (c.2.2.2.2.length+1) (0,0))
def cellS(c:ah)(size:Int):Bool:=
 bif c.1==0 then(((c.2.1==0&&c.2.2.2.1.length==0)&&c.2.2.2.2.length==0)&&bJ c.2.2.1 (-1) (size-1))
 else bif c.1==13 then(((c.2.1==0&&c.2.2.1==0)&&c.2.2.2.1.length==0)&&decide (c.2.2.2.2.length<2))
 else aZ c.1&&dz (gA (oF c))
def gV(c:ah):Bool:=
 bif aZ c.1 then dz (gA (oF c))
 else bif c.1==13 then(((c.2.1==0&&c.2.2.1==0)&&c.2.2.2.1.length==0)&&decide (c.2.2.2.2.length≤1))
 else((c.1==0&&c.2.1==0)&&c.2.2.2.1.length==0)&&c.2.2.2.2.length==0
def dJ(xs:List ah)(w:ay):Bool:=bJ w.2 0 ((xs.length:Int)-1)&&((w.1==1&&aZ (aj xs w.2).1)||(w.1==2&&(aj xs w.2).1==13))
def dG(m:bE):List ay:=m.2.2.1::m.1.flatMap fun c=>c.2.2.2.2
def gq(xs:List ah)(p:ay):Bool:=((bJ p.2 1 ((xs.length:Int)-1)&&bJ p.1 0 (p.2-1))&&aZ (aj xs p.1).1)&&aZ (aj xs p.2).1
def nS(l:List Int)(i:Int):List Int:=l.set i.toNat (IntKind.i64.wrap (l.getD i.toNat 0+1))
def jv(l:List Int)(ws:List ay):List Int:=ws.foldl (fun l w=>nS l w.2) l
def gP(l:List Int)(rs:List ay):List Int:=rs.foldl (fun l p=>nS (nS l p.1) p.2) l
def mV(xs:List ah)(ws rs:List ay):List Int:=gP (jv (List.replicate xs.length 0) ws) rs
def bF(xs:List ah):Nat→ay→ay×Bool
 |0,w=>(w,false)
 |k+1,w=>bif (w.1 !=2)||(aj xs w.2).2.2.2.2.length==0 then(w,true)else bF xs k ((aj xs w.2).2.2.2.2.getD 0 (0,0))
def bW(xs:List ah):Nat→Int→Bool
 |0,a=>a== -1
 |k+1,a=>(bJ a 0 ((xs.length:Int)-1)&&(aj xs a).1==0)&&bW xs k (aj xs a).2.2.1
def bK(xs:List ah):Nat:=xs.countP fun c=>c.1==0
def rT(xs:List ah)(us:List Int)(i:Nat):Bool:=
 !(aZ (aj xs i).1&&us.getD i 0 !=1)&&(!((aj xs i).1==13)||(us.getD i 0==2-((aj xs i).2.2.2.2.length:Int)&&(bF xs (xs.length+1) (2,i)).2))
def o9(c:ah):Int:=bif c.1==0 then 0 else bif c.1==13&&c.2.2.2.2.length==0 then 2 else 1
def uT(xs:List ah)(us:List Int)(i:Nat):Bool:=us.getD i 0==o9 (aj xs i)
def mF(m:bE)(held rs:List ay):Bool:=
 (bJ m.1.length 1 1500&&decide (rs.length≤m.1.length))&&(m.1.all (fun c=>cellS c m.1.length)&&((dG m++held).all (dJ m.1)&&(rs.all (gq m.1)&&(dM m.1.length (rT m.1 (mV m.1 (dG m++held) rs))&&bW m.1 (bK m.1) m.2.1))))
def mE(m:bE)(held:List ay):Bool:=
 (bJ m.1.length 1 1500&&decide (m.2.2.2.length≤m.1.length))&&(m.1.all gV&&((dG m++held).all (dJ m.1)&&(m.2.2.2.all (gq m.1)&&(dM m.1.length (uT m.1 (mV m.1 (dG m++held) m.2.2.2))&&(bW m.1 (bK m.1) m.2.1&&dM m.1.length fun i=> !((aj m.1 i).1==13)||(bF m.1 (m.1.length+1) (2,i)).2)))))
def iP(l:List Int):Bool:=dM l.length (fun k=>bJ (l.getD k 0) 0 1000000000)&&l.length==7
def eF(w:dn):Bool:=w.1==1||w.1==3
def fG(n:Int)(w:dn):Bool:=
 (((bJ w.1 1 4&&bJ w.2.1 0 (n-1))&&iP w.2.2.2.2)&&decide (w.2.2.2.1.length≤1500))&&(w.1==1||(w.2.2.1.length==0&&w.2.2.2.1.length==0))
def dN(ws:List dn):List ay:=ws.flatMap fun w=>w.2.2.2.1.flatMap fun l=>[l.1,l.2]
def dY(ws:List dn):List ay:=ws.flatMap fun w=>w.2.2.1
def jE(p:fA):Bool:=((bJ p.2.1.length 1 4&&p.1.2.2.2.length==0)&&p.2.1.all (fG p.2.1.length))&&((p.2.1.countP eF:Nat):Int)==p.2.2
def iL(p:fA):Bool:=jE p&&mF p.1 (dN p.2.1) (dY p.2.1)
def mM(p:fA):Bool:=jE p&&mE (p.1.1,p.1.2.1,p.1.2.2.1,dY p.2.1) (dN p.2.1)
def jR{α:Type}(g:α→Bool):List α→Int→Int
 |[],_=> -1
 |x::l,k=>bif g x then k else jR g l (k+1)
theorem oL{α:Type}(g:α→Bool):∀(l:List α) (k:Int),0≤k→decide (0≤jR g l k)=l.any g
 |[],k,_=>rfl
 |x::l,k,h=>by
  unfold jR;rw[List.any_cons];cases hg:g x with
  |true=>simpa using h
  |false=>simpa using oL g l (k+1) (by omega)
theorem zV{α:Type}(d:α){xs:List α}{i:Nat}(h:i<xs.length):xs.drop i=xs.getD i d::xs.drop (i+1):=by
 rw[List.getD_eq_getElem?_getD,List.getElem?_eq_getElem h];exact List.drop_eq_getElem_cons h
theorem xP(l:List Int)(ws:List ay){i:Nat}(h:i<ws.length):jv l (ws.take (i+1))=nS (jv l (ws.take i)) (ws.getD i (0,0)).2:=by
 unfold jv;rw[List.take_add_one,List.foldl_append,List.getD_eq_getElem?_getD,List.getElem?_eq_getElem h];rfl
theorem xM(l:List Int)(ws:List ay){i:Nat}(h:i<ws.length):gP l (ws.take (i+1))=nS (nS (gP l (ws.take i)) (ws.getD i (0,0)).1) (ws.getD i (0,0)).2:=by
 unfold gP;rw[List.take_add_one,List.foldl_append,List.getD_eq_getElem?_getD,List.getElem?_eq_getElem h];rfl
theorem l9(l:List Int)(i:Int):(nS l i).length=l.length:=by simp[nS]
theorem p9(l:List Int)(ws:List ay):(jv l ws).length=l.length:=by
 unfold jv
 induction ws generalizing l with
 |nil=>rfl
 |cons w ws ih=>rw[List.foldl_cons,ih,l9]
theorem p8(l:List Int)(ws:List ay):(gP l ws).length=l.length:=by
 unfold gP
 induction ws generalizing l with
 |nil=>rfl
 |cons w ws ih=>rw[List.foldl_cons,ih,l9,l9]
theorem l8{α:Type}(f:α→Bool)(d:α)(xs:List α){i:Nat}(h:i<xs.length):(xs.take (i+1)).all f=((xs.take i).all f&&f (xs.getD i d)):=by
 rw[List.take_add_one,List.all_append,List.getD_eq_getElem?_getD,List.getElem?_eq_getElem h];simp
theorem Bq{α:Type}(f:α→Bool)(d:α)(xs:List α){i:Nat}(h:i<xs.length)(h1:f (xs.getD i d)=false):xs.all f=false:=by
 rw[List.getD_eq_getElem?_getD,List.getElem?_eq_getElem h]at h1;rw[List.all_eq_false];exact⟨xs[i],List.getElem_mem h,by simpa using h1⟩
theorem jo{α β:Type}(f:α→List β)(d:α)(xs:List α){i:Nat}(h:i<xs.length):(xs.take (i+1)).flatMap f=(xs.take i).flatMap f++f (xs.getD i d):=by
 rw[List.take_add_one,List.flatMap_append,List.getD_eq_getElem?_getD,List.getElem?_eq_getElem h];simp
theorem lQ{α β:Type}(f:α→List β)(xs:List α)(i:Nat):((xs.take i).flatMap f).length≤(xs.flatMap f).length:=by
 have h:xs.flatMap f=(xs.take i).flatMap f++(xs.drop i).flatMap f:=by rw[←List.flatMap_append,List.take_append_drop]
 rw[h,List.length_append];omega
theorem oH{α:Type}(f:α→Bool)(d:α)(xs:List α){i:Nat}(h:i<xs.length):(xs.take (i+1)).countP f=(xs.take i).countP f+(bif f (xs.getD i d)then 1 else 0):=by
 rw[List.take_add_one,List.countP_append,List.getD_eq_getElem?_getD,List.getElem?_eq_getElem h];cases hf:f xs[i]<;>simp[hf]
theorem gN(n:Nat)(f:Nat→Bool):dM (n+1) f=(dM n f&&f n):=by simp[dM,List.range_succ]
end Go.Tr
