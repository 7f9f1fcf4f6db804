
/- Data of the program as structures, and how they lie in memory. No program in it. Printed by gen_fam.py. -/
import Derived.Test.YtcjhkgfmklgikaaGreatShort
import Derived.Test.YtcjhkgfmklgikaaGreatSc
import Derived.Test.YtcjhkgfmklgikaaGreatNy
import Derived.Test.YtcjhkgfmklgikaaGreatVV
import Derived.Test.YtcjhkgfmklgikaaGreatRa
import Derived.Test.YtcjhkgfmklgikaaGreatRg
import Derived.Test.YtcjhkgfmklgikaaGreatKDbg
set_option linter.unusedSimpArgs false
set_option linter.unusedVariables false
namespace Go.Tr
open Go Go.RowKit
structure aP where
 a:Int
 b:Int
 class_:Int
 first_:Int
 count:Int
def aP.enc(x:aP):List D:=[.v (.int .i64 x.a),.v (.int .i64 x.b),.v (.int .i64 x.class_),.v (.int .i64 x.first_),.v (.int .i64 x.count)]
theorem aP.bn(x:aP):x.enc.length=5:=rfl
theorem aP.us{w:World}{x:aP}{bs us}(h0:TN w x.enc bs us):us=[.int .i64 x.a,.int .i64 x.b,.int .i64 x.class_,.int .i64 x.first_,.int .i64 x.count]∧bs=[]:=by
 unfold aP.enc at h0;obtain⟨u0,rfl,h1⟩:=TN.jH h0;obtain⟨u1,rfl,h2⟩:=TN.jH h1;obtain⟨u2,rfl,h3⟩:=TN.jH h2;obtain⟨u3,rfl,h4⟩:=TN.jH h3;obtain⟨u4,rfl,h5⟩:=TN.jH h4;obtain⟨rfl,rfl⟩:=TN.end_ h5;exact⟨rfl,rfl⟩
theorem aP.yG{w:World}{x:aP}:TN w x.enc ([]) [.int .i64 x.a,.int .i64 x.b,.int .i64 x.class_,.int .i64 x.first_,.int .i64 x.count]:=by
 have h:=(show TN w [.v (.int .i64 x.a),.v (.int .i64 x.b),.v (.int .i64 x.class_),.v (.int .i64 x.first_),.v (.int .i64 x.count)] _ _ from TN.nZ rfl (TN.nZ rfl (TN.nZ rfl (TN.nZ rfl (TN.nZ rfl (TN.done))))))
 try simp only[qS]at h
 unfold aP.enc
 first|exact h|simpa only[qF]using h
theorem aP.tH{w:World}{xs:List aP}{bs:List Nat}{A:Option Addr}{n n' c:Nat}(h:T1 w (.sl n (xs.flatMap aP.enc)) bs (.slice A n' c))(hm:xs.length=n){k:Nat}(hk:k<n):
  ∃(b off:Nat) (x:aP),A=some ⟨b,off,none⟩∧b<w.heap.size∧Hid (xs[k]? =some x)∧w.cell? ⟨b,off+k*5,none⟩=some (.int .i64 x.a)∧w.cell? ⟨b,off+k*5+1,none⟩=some (.int .i64 x.b)∧w.cell? ⟨b,off+k*5+2,none⟩=some (.int .i64 x.class_)∧w.cell? ⟨b,off+k*5+3,none⟩=some (.int .i64 x.first_)∧w.cell? ⟨b,off+k*5+4,none⟩=some (.int .i64 x.count):=by
 obtain⟨_,b,off,p1,p2,p3,us,hA,_,hb,hc,ht⟩:=T1.at_ aP.bn h hm hk;obtain⟨rfl,_⟩:=aP.us ht;exact⟨b,off,xs[k],hA,hb,qB (hm▸hk),hc 0 _ rfl,hc 1 _ rfl,hc 2 _ rfl,hc 3 _ rfl,hc 4 _ rfl⟩
theorem aP.Cn{x y:aP}(h0:x.a=y.a)(h1:x.b=y.b)(h2:x.class_=y.class_)(h3:x.first_=y.first_)(h4:x.count=y.count):x=y:=by
 cases x;cases y;simp_all
def aP.wt(_x:aP):Nat:=0
def aP.small(_x:aP):Prop:=True
universe u
theorem EY{u:U}:∀xs:List (El u),(List.flatMap (enc u) xs).length=xs.length*u.size
 |[]=>by simp
 |x::xs=>by rw[qU,qA,bn,EY xs,qI,Nat.add_mul];omega
theorem Inv.X6{cx:Cx}{β:Nat→Value}{w:World}{g:Nat}{t:TypeId}{s:Nat}{u:U}{xs:List (El u)}{us:List Value}(h:Inv cx.w0 [] w [Tok.res cx β (.row g t s u xs us)]):
  ∃A c q,β g=.slice A (List.length (α:=El u) xs) c∧T1 w (.sl (List.length (α:=El u) xs) (List.flatMap (enc u) xs)) q (.slice A (List.length (α:=El u) xs) c)∧Own cx.w0.heap.size w q:=by
 obtain⟨G,⟨F,G',rfl,⟨hs,bs,raw,rfl,hg,_⟩,rfl,_⟩,h3⟩:=h.sep;obtain⟨A,c,q,h1,h2,h4,h5⟩:=hg.XZ (by subst hs;exact EY xs);exact⟨A,c,q,h1,h2,h4.1,fun b hb=>⟨(h3 b (by simpa using h5 b hb)).elim (fun h=>by simp at h) id,(h4.2 b hb).2⟩⟩
def rW(x:aO):List aj:=x.agents.map nA
theorem Tw(x:aO):gN (rW x)=x:=by
 unfold gN rW;rw[List.map_map]
 have:x.agents.map (gA∘nA)=x.agents:=by
  conv=>rhs;rw[←List.map_id x.agents]
  exact List.map_congr_left fun a _=>MF a
 rw[this]
theorem Jq(x:aO):x.enc=enc bO (rW x):=by rw[←GD,Tw]
def Tt(e:aT):aP:=⟨e.1,e.2.1,e.2.2.1,e.2.2.2.1,e.2.2.2.2⟩
theorem P9(xs:List aT):(xs.map Tt).flatMap aP.enc=List.flatMap (enc rH) xs:=by
 induction xs with
 |nil=>rfl
 |cons x l ih=>rw[List.map_cons,qU,qU,ih];rfl
theorem Oo(xs:List aO):xs.flatMap aO.enc=List.flatMap (enc bO) (xs.map rW):=by
 induction xs with
 |nil=>rfl
 |cons x l ih=>rw[List.map_cons,qU,qU,ih,Jq]
section
variable {cx:Cx}{β:Nat→Value}{w:World}
theorem IU{x:List aO}{A:Option Addr}{c:Nat}{p:List Nat}(h:T1 w (.sl x.length (x.flatMap aO.enc)) p (.slice A x.length c)):Den ⟨w,[]⟩ β (.rsl bO (x.map rW)) (.slice A x.length c):=by
 unfold Den;have e:(List.length (α:=El bO) (x.map rW))=x.length:=qV _;rw[e,←Oo];exact⟨p,h,fun b hb=>by simp⟩
theorem Mh{x:aO}{p:List Nat}{u:List Value}(h:TN w x.enc p u):Den ⟨w,[]⟩ β (.agg [.rsl aG (rW x)]) (.agg u.toArray):=by
 unfold Den;refine⟨u,rfl,sI bO (rW x) (yF.of (bs:=p) ?_)⟩;rw[←Jq];exact h
theorem pQ{s:SV}{v:Value}{l:List SV}{vs:List Value}(h:Den cx β s v)(k:aM cx β l vs):aM cx β (s::l) (v::vs):=by
 unfold aM;exact⟨v,vs,rfl,h,k⟩
theorem IV:aM cx β [] []:=by unfold aM;rfl
theorem aA.plain{P:Program}{f:Nat}{args:List SV}{r:SV}{v:Value}{vs:List Value}{w:World}(h:aA P f args [] r [])(hd:∀β,aM ⟨w,[]⟩ β args vs)(hv:∀β v',Den ⟨w,[]⟩ β r v'→v'=v):Calls P f vs.toArray w fun e w'=>e=.returned v∧Ext w w':=by
 refine(h.2 ⟨w,[]⟩ (fun _=>undef) w [] vs (Inv.wN w) (hd _)).mono ?_;rintro e w' ⟨v',β',rfl,_,h1,h2⟩;exact⟨by rw[hv _ _ h1],h2.yB⟩
end
end Go.Tr
namespace Go.Tr
open Go Go.RowKit
theorem Zbo{α:Type}(f:α→Nat)(k:Nat):∀xs:List α,(∀x∈xs,f x≤k)→(xs.map f).sum≤k*xs.length
 |[],_=>by simp
 |x::xs,h=>by
  rw[List.map_cons,List.sum_cons,qI,Nat.mul_add];have h1:=h x (by simp);have h2:=Zbo f k xs fun y hy=>h y (by simp[hy])
  omega
theorem ZaV{P:List aj}(h:YG P):(gN P).cnt≤1099511627776:=by
 have h1:=aO.Kz (gN P)
 have h2:(gN P).wt≤100000:=by
  have e:(gN P).wt=(P.map gA).length+((P.map gA).map aB.wt).sum:=rfl;rw[e]
  have h3:=Zbo aB.wt 8 (P.map gA) fun x hx=>by
   obtain⟨a,ha,rfl⟩:=List.mem_map.1 hx;have h4:=h.2 a ha;have e2:(gA a).wt=vL (fun _=>0) a.2.2.2.1+vL (fun _=>0) (a.2.2.2.2.map gP):=rfl;rw[e2,Ke,Ke,qV];omega
  have h5:=h.1;rw[qV]at h3 ⊢;omega
 omega
end Go.Tr
namespace Go.Proofs.YtcjhkgfmklgikaaGreat
open Go Go.RowKit Go.Proofs Go.Tr
section
variable (a0:List aO){A0:Option Addr}{c0:Nat}{p0:List Nat}(a1:aO){p1:List Nat}{u1:List Value}(a2:List aP){A2:Option Addr}{c2:Nat}{p2:List Nat}(r0:aO)(r1:Int)
end
end Go.Proofs.YtcjhkgfmklgikaaGreat
