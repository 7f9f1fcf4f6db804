
/- Nets as data: agents, ports, wires. No program in it. -/
import Derived.Test.YtjpaeopdljfjpaaShort
import Derived.Test.YtjpaeopdljfjpaaVV
import Derived.Test.YtjpaeopdljfjpaaNet
set_option linter.unusedSimpArgs false
set_option linter.unusedVariables false
namespace Go.Tr
open Go Go.RowKit
abbrev GV:U:=.pair (.int .i64) (.int .i64)
abbrev KE:U:=.pair (.int .i64) (.pair (.int .i64) (.pair (.int .i64) (.pair (.sl (.int .i64)) (.sl GV))))
abbrev gy:=Int×Int
abbrev bD:=Int×Int×Int×List Int×List gy
def jR(xs:List bD)(i:Int):bD:=elt (dflt KE) xs i
abbrev bD.kind(a:bD):Int:=a.1
abbrev bD.level(a:bD):Int:=a.2.1
abbrev bD.value(a:bD):Int:=a.2.2.1
abbrev bD.data(a:bD):List Int:=a.2.2.2.1
abbrev bD.iT(a:bD):List gy:=a.2.2.2.2
def iR(xs:List bD)(p:gy):gy:=elt (dflt GV) (jR xs p.1).iT p.2
def jo(xs:List bD)(p q:gy):List bD:=xs.set p.1.toNat ((jR xs p.1).1,(jR xs p.1).2.1,(jR xs p.1).2.2.1,(jR xs p.1).2.2.2.1,(jR xs p.1).2.2.2.2.set p.2.toNat q)
def wD(xs:List bD)(p q:gy):List bD:=jo (jo xs p q) q p
def bT(xs:List bD)(p:gy):Prop:=0≤p.1∧p.1<(xs.length:Nat)∧0≤p.2∧p.2<((jR xs p.1).iT.length:Nat)
theorem sH(xs:List bD)(p q:gy):(jo xs p q).length=xs.length:=by unfold jo;simp
theorem EO{xs:List bD}{k:Nat}{y:bD}{i:Int}:jR (xs.set k y) i=if k=i.toNat∧k<xs.length then y else jR xs i:=by
 unfold jR elt;rw[qC,qC,List.getElem?_set]
 by_cases h:k=i.toNat
 ·subst h
  by_cases h2:i.toNat<xs.length
  ·simp[h2]
  ·simp[h2]
 ·simp[h]
theorem rA(xs:List bD)(p q:gy)(i:Int):jR (jo xs p q) i=if p.1.toNat=i.toNat∧p.1.toNat<xs.length then((jR xs p.1).1,(jR xs p.1).2.1,(jR xs p.1).2.2.1,(jR xs p.1).2.2.2.1,(jR xs p.1).2.2.2.2.set p.2.toNat q)else jR xs i:=EO
theorem EN{xs:List bD}{i j:Int}(h:i.toNat=j.toNat):jR xs i=jR xs j:=by unfold jR elt;rw[h]
theorem o7(xs:List bD)(p q:gy)(i:Int):(jR (jo xs p q) i).iT.length=(jR xs i).iT.length:=by
 rw[rA];split
 ·rename_i h;rw[EN h.1.symm];simp[bD.iT]
 ·rfl
theorem bT.set{xs:List bD}{p q r:gy}(h:bT xs r):bT (jo xs p q) r:=by
 unfold bT at h ⊢;rw[sH,o7];exact h
theorem bT.link{xs:List bD}{p q r:gy}(h:bT xs r):bT (wD xs p q) r:=h.set.set
def JC(xs:List bD)(old now:gy):List bD:=wD xs (iR xs old) now
def Df(xs:List bD)(x y:gy):List bD:=bif (iR xs x).1==y.1&&(iR xs x).2==y.2 then xs else wD xs (iR xs x) (iR xs y)
def Eh(kind level value:Int)(data:List Int)(n:Nat):bD:=(kind,level,value,data,List.replicate n (0,0))
theorem Bp{k:Nat}(h:k<1000000000):IntKind.i64.wrap ((k:Int)+1)=((k+1:Nat):Int):=fQ (by omega)
def nu(xs:List bD):Prop:=∀p,bT xs p→bT xs (iR xs p)
theorem Ir{α:Type}{d:α}{xs:List α}{k:Nat}{y:α}{i:Int}:elt d (xs.set k y) i=if k=i.toNat∧k<xs.length then y else elt d xs i:=by
 unfold elt;rw[qC,qC,List.getElem?_set]
 by_cases h:k=i.toNat
 ·subst h
  by_cases h2:i.toNat<xs.length<;>simp[h2]
 ·simp[h]
theorem Iq{α:Type}{d:α}{xs ys:List α}{i:Int}(h:i.toNat<xs.length):elt d (xs++ys) i=elt d xs i:=by
 unfold elt;rw[qC,qC,qM h]
theorem FD{α:Type}{d y:α}{xs:List α}{i:Int}(h:i.toNat=xs.length):elt d (xs++[y]) i=y:=by
 unfold elt;rw[h,qC];simp
theorem vk{xs ys:List bD}{i:Int}(h:i.toNat<xs.length):jR (xs++ys) i=jR xs i:=Iq h
theorem xQ{y:bD}{xs:List bD}{i:Int}(h:i.toNat=xs.length):jR (xs++[y]) i=y:=FD h
theorem bT.app{xs ys:List bD}{p:gy}(h:bT xs p):bT (xs++ys) p:=by
 obtain⟨h1,h2,h3,h4⟩:=h;refine⟨h1,by rw[qA];omega,h3,?_⟩;rw[vk (by omega)];exact h4
theorem bT.new{k l v:Int}{d:List Int}{n:Nat}{xs:List bD}{s:Int}(h0:0≤s)(h1:s<(n:Nat)):bT (xs++[Eh k l v d n]) ((xs.length:Nat),s):=by
 refine⟨by omega,by rw[qA,qJ];show((xs.length:Nat):Int)<_;omega,h0,?_⟩;rw[xQ (by simp)];simpa[Eh,bD.iT]using h1
theorem En{xs ys:List bD}{p:gy}(h:p.1.toNat<xs.length):iR (xs++ys) p=iR xs p:=by unfold iR;rw[vk h]
theorem yw{xs:List bD}{p q r:gy}(hp:bT xs p)(hr:bT xs r):iR (jo xs p q) r=if p=r then q else iR xs r:=by
 obtain⟨p1,p2,p3,p4⟩:=hp;obtain⟨r1,r2,r3,r4⟩:=hr;unfold iR;rw[rA]
 by_cases h:p.1.toNat=r.1.toNat
 ·have e:p.1=r.1:=by omega
  rw[if_pos ⟨h,by omega⟩];show elt (dflt GV) ((jR xs p.1).2.2.2.2.set p.2.toNat q) r.2=_;rw[Ir]
  by_cases h2:p.2.toNat=r.2.toNat
  ·have e2:p.2=r.2:=by omega
   rw[if_pos ⟨h2,by simp only[bD.iT]at p4;omega⟩,if_pos (Prod.ext e e2)]
  ·rw[if_neg (fun hh=>h2 hh.1),if_neg (fun hh=>h2 (by rw[hh])),e]
 ·rw[if_neg (fun hh=>h hh.1),if_neg (fun hh=>h (by rw[hh]))]
theorem Ch{xs:List bD}{p q r:gy}(hp:bT xs p)(hq:bT xs q)(hr:bT xs r):iR (wD xs p q) r=if q=r then p else if p=r then q else iR xs r:=by
 unfold wD;rw[yw hq.set hr.set,yw hp hr]
theorem bT.unset{xs:List bD}{p q r:gy}(h:bT (jo xs p q) r):bT xs r:=by
 unfold bT at h ⊢
 rwa[sH,o7]at h
theorem bT.unlink{xs:List bD}{p q r:gy}(h:bT (wD xs p q) r):bT xs r:=h.unset.unset
theorem nu.link{xs:List bD}{p q:gy}(h:nu xs)(hp:bT xs p)(hq:bT xs q):nu (wD xs p q):=fun r hr=>by
 have hr':=hr.unlink;rw[Ch hp hq hr'];split
 ·exact hp.link
 ·split
  ·exact hq.link
  ·exact(h r hr').link
theorem nu.move{xs:List bD}{p q:gy}(h:nu xs)(hp:bT xs p)(hq:bT xs q):nu (JC xs p q):=h.link (h p hp) hq
theorem bT.move{xs:List bD}{p q r:gy}(h:bT xs r):bT (JC xs p q) r:=h.link
theorem bT.join{xs:List bD}{p q r:gy}(h:bT xs r):bT (Df xs p q) r:=by
 unfold Df;cases ((iR xs p).1==q.1&&(iR xs p).2==q.2)with
 |true=>exact h
 |false=>exact h.link
theorem nu.join{xs:List bD}{p q:gy}(h:nu xs)(hp:bT xs p)(hq:bT xs q):nu (Df xs p q):=by
 unfold Df;cases ((iR xs p).1==q.1&&(iR xs p).2==q.2)with
 |true=>exact h
 |false=>exact h.link (h p hp) (h q hq)
theorem nu.add{xs:List bD}(h:nu xs)(h0:bT xs (0,0))(k l v:Int)(d:List Int)(n:Nat):nu (xs++[Eh k l v d n]):=fun r hr=>by
 by_cases hlt:r.1.toNat<xs.length
 ·rw[En hlt];obtain⟨r1,r2,r3,r4⟩:=hr;rw[vk hlt]at r4;exact(h r ⟨r1,by omega,r3,r4⟩).app
 ·obtain⟨r1,r2,r3,r4⟩:=hr;rw[qA,qJ]at r2;have e:r.1.toNat=xs.length:=by omega
  have hp:iR (xs++[Eh k l v d n]) r=(0,0):=by
   unfold iR;rw[xQ e]at r4 ⊢;simp only[Eh,bD.iT,List.length_replicate]at r4;unfold elt;rw[qC];simp only[Eh,bD.iT];rw[List.getElem?_replicate];split<;>rfl
  rw[hp];exact h0.app
section
variable {cx:Cx}{β:Nat→Value}{w:World}{R:List bV}
end
end Go.Tr
namespace Go.Tr
open Go Go.RowKit
def yY{α:Type}(g:α→Bool):List α→Int→Int
 |[],_=> -1
 |x::l,k=>bif g x then k else yY g l (k+1)
theorem Aj{α:Type}(g:α→Bool):∀(l:List α) (k:Int),0≤k→decide (0≤yY g l k)=l.any g
 |[],k,_=>rfl
 |x::l,k,h=>by
  unfold yY;rw[List.any_cons];cases hg:g x with
  |true=>simpa using h
  |false=>simpa using Aj g l (k+1) (by omega)
theorem J8{α:Type}(d:α){xs:List α}{i:Nat}(h:i<xs.length):xs.drop i=xs.getD i d::xs.drop (i+1):=by
 rw[qC,qB h];exact List.drop_eq_getElem_cons h
end Go.Tr
