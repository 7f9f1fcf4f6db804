
/- Data of the program as structures, and how they lie in memory. No program in it. Printed by gen_fam.py. -/
import Derived.Test.YtjijpkphkicoeaaGreatSc
import Derived.Test.YtjijpkphkicoeaaGreatNz
import Derived.Test.YtjijpkphkicoeaaGreatVV
import Derived.Test.YtjijpkphkicoeaaGreatRa
import Derived.Test.YtjijpkphkicoeaaGreatRg
import Derived.Test.YtjijpkphkicoeaaGreatKDbg
set_option linter.unusedSimpArgs false
set_option linter.unusedVariables false
namespace Go.Tr
open Go Go.RowKit
structure dR where
 a:Int
 b:Int
 class_:Int
 first_:Int
 count:Int
def dR.enc(x:dR):List D:=[.v (.int .i64 x.a),.v (.int .i64 x.b),.v (.int .i64 x.class_),.v (.int .i64 x.first_),.v (.int .i64 x.count)]
theorem dR.aM(x:dR):x.enc.length=5:=rfl
theorem dR.us{w:World}{x:dR}{bs us}(h0:TN w x.enc bs us):us=[.int .i64 x.a,.int .i64 x.b,.int .i64 x.class_,.int .i64 x.first_,.int .i64 x.count]∧bs=[]:=by
 unfold dR.enc at h0;obtain⟨u0,rfl,h1⟩:=TN.iq h0;obtain⟨u1,rfl,h2⟩:=TN.iq h1;obtain⟨u2,rfl,h3⟩:=TN.iq h2;obtain⟨u3,rfl,h4⟩:=TN.iq h3;obtain⟨u4,rfl,h5⟩:=TN.iq h4;obtain⟨rfl,rfl⟩:=TN.end_ h5;exact⟨rfl,rfl⟩
theorem dR.wP{w:World}{x:dR}:TN w x.enc ([]) [.int .i64 x.a,.int .i64 x.b,.int .i64 x.class_,.int .i64 x.first_,.int .i64 x.count]:=by
 have h:=(show TN w [.v (.int .i64 x.a),.v (.int .i64 x.b),.v (.int .i64 x.class_),.v (.int .i64 x.first_),.v (.int .i64 x.count)] _ _ from TN.lu rfl (TN.lu rfl (TN.lu rfl (TN.lu rfl (TN.lu rfl (TN.done))))))
 try simp only[List.append_nil]at h
 unfold dR.enc
 first|exact h|simpa only[List.append_assoc]using h
theorem dR.qZ{w:World}{xs:List dR}{bs:List Nat}{A:Option Addr}{n n' c:Nat}(h:T1 w (.sl n (xs.flatMap dR.enc)) bs (.slice A n' c))(hm:xs.length=n){k:Nat}(hk:k<n):
  ∃(b off:Nat) (x:dR),A=some ⟨b,off,none⟩∧b<w.heap.size∧Hid (xs[k]? =some x)∧w.cell? ⟨b,off+k*5,none⟩=some (.int .i64 x.a)∧w.cell? ⟨b,off+k*5+1,none⟩=some (.int .i64 x.b)∧w.cell? ⟨b,off+k*5+2,none⟩=some (.int .i64 x.class_)∧w.cell? ⟨b,off+k*5+3,none⟩=some (.int .i64 x.first_)∧w.cell? ⟨b,off+k*5+4,none⟩=some (.int .i64 x.count):=by
 obtain⟨_,b,off,p1,p2,p3,us,hA,_,hb,hc,ht⟩:=T1.at_ dR.aM h hm hk;obtain⟨rfl,_⟩:=dR.us ht;exact⟨b,off,xs[k],hA,hb,List.getElem?_eq_getElem (hm▸hk),hc 0 _ rfl,hc 1 _ rfl,hc 2 _ rfl,hc 3 _ rfl,hc 4 _ rfl⟩
theorem dR.Bj{x y:dR}(h0:x.a=y.a)(h1:x.b=y.b)(h2:x.class_=y.class_)(h3:x.first_=y.first_)(h4:x.count=y.count):x=y:=by
 cases x;cases y;simp_all
def dR.wt(_x:dR):Nat:=0
def dR.small(_x:dR):Prop:=True
universe u
theorem w9{u:U}:∀xs:List (El u),(List.flatMap (enc u) xs).length=xs.length*u.size
 |[]=>by simp
 |x::xs=>by rw[List.flatMap_cons,List.length_append,aM,w9 xs,List.length_cons,Nat.add_mul];omega
def nNet(x:GNet):List NAgent:=x.agents.map nA
theorem PI(x:GNet):gN (nNet x)=x:=by
 unfold gN nNet;rw[List.map_map]
 have:x.agents.map (gA∘nA)=x.agents:=by
  conv=>rhs;rw[←List.map_id x.agents]
  exact List.map_congr_left fun a _=>Jy a
 rw[this]
theorem FU(x:GNet):x.enc=enc uNet (nNet x):=by rw[←zB,PI]
theorem KW(xs:List GNet):xs.flatMap GNet.enc=List.flatMap (enc uNet) (xs.map nNet):=by
 induction xs with
 |nil=>rfl
 |cons x l ih=>rw[List.map_cons,List.flatMap_cons,List.flatMap_cons,ih,FU]
section
variable {cx:Cx}{β:Nat→Value}{w:World}
theorem den_nets{x:List GNet}{A:Option Addr}{c:Nat}{p:List Nat}(h:T1 w (.sl x.length (x.flatMap GNet.enc)) p (.slice A x.length c)):Den ⟨w,[]⟩ β (.rsl uNet (x.map nNet)) (.slice A x.length c):=by
 unfold Den;have e:(List.length (α:=El uNet) (x.map nNet))=x.length:=List.length_map _;rw[e,←KW];exact⟨p,h,fun b hb=>by simp⟩
theorem den_net{x:GNet}{p:List Nat}{u:List Value}(h:TN w x.enc p u):Den ⟨w,[]⟩ β (.agg [.rsl uAgent (nNet x)]) (.agg u.toArray):=by
 unfold Den;refine⟨u,rfl,oF uNet (nNet x) (uW.of (bs:=p) ?_)⟩;rw[←FU];exact h
theorem den_ints{x:List Int}{A:Option Addr}{c:Nat}{p:List Nat}(h:T1 w (.sl x.length (x.flatMap intE)) p (.slice A x.length c)):Den ⟨w,[]⟩ β (.rsl (.int .i64) x) (.slice A x.length c):=by
 unfold Den;rw[oZ];exact⟨p,h,fun b hb=>by simp⟩
theorem dens_cons{s:SV}{v:Value}{l:List SV}{vs:List Value}(h:Den cx β s v)(k:Dens cx β l vs):Dens cx β (s::l) (v::vs):=by
 unfold Dens;exact⟨v,vs,rfl,h,k⟩
theorem dens_nil:Dens cx β [] []:=by unfold Dens;rfl
theorem FCall.plain{P:Program}{f:Nat}{args:List SV}{r:SV}{v:Value}{vs:List Value}{w:World}(h:FCall P f args [] r [])(hd:∀β,Dens ⟨w,[]⟩ β args vs)(hv:∀β v',Den ⟨w,[]⟩ β r v'→v'=v):Calls P f vs.toArray w fun e w'=>e=.returned v∧Ext w w':=by
 refine(h.2 ⟨w,[]⟩ (fun _=>undef) w [] vs (Inv.sw w) (hd _)).mono ?_;rintro e w' ⟨v',β',rfl,_,h1,h2⟩;exact⟨by rw[hv _ _ h1],h2.uS⟩
end
end Go.Tr
namespace Go.Tr
open Go Go.RowKit
theorem Om{α:Type}(f:α→Nat)(k:Nat):∀xs:List α,(∀x∈xs,f x≤k)→(xs.map f).sum≤k*xs.length
 |[],_=>by simp
 |x::xs,h=>by
  rw[List.map_cons,List.sum_cons,List.length_cons,Nat.mul_add];have h1:=h x (by simp);have h2:=Om f k xs fun y hy=>h y (by simp[hy])
  omega
theorem small_cnt{P:List NAgent}(h:SmallP P):(gN P).cnt≤1099511627776:=by
 have h1:=GNet.cnt_le (gN P)
 have h2:(gN P).wt≤100000:=by
  have e:(gN P).wt=(P.map gA).length+((P.map gA).map aj.wt).sum:=rfl;rw[e]
  have h3:=Om aj.wt 8 (P.map gA) fun x hx=>by
   obtain⟨a,ha,rfl⟩:=List.mem_map.1 hx;have h4:=h.2 a ha;have e2:(gA a).wt=qM (fun _=>0) a.2.2.2.1+qM (fun _=>0) (a.2.2.2.2.map gP):=rfl;rw[e2,wN,wN,List.length_map];omega
  have h5:=h.1;rw[List.length_map]at h3 ⊢;omega
 omega
end Go.Tr
namespace Go.Proofs.YtjijpkphkicoeaaGreat
open Go Go.RowKit Go.Proofs Go.Tr
section
variable (a0:List GNet){A0:Option Addr}{c0:Nat}{p0:List Nat}(a1:GNet){p1:List Nat}{u1:List Value}(a2:List dR){A2:Option Addr}{c2:Nat}{p2:List Nat}(r0:GNet)(r1:Int)
end
end Go.Proofs.YtjijpkphkicoeaaGreat
