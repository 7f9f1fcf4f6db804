
/- Data of the program as structures, and how they lie in memory. No program in it. Printed by gen_fam.py. -/
import Derived.Test.YtbdimbjclhmeoaaGreatShort
import Derived.Test.YtbdimbjclhmeoaaGreatSc
import Derived.Test.YtbdimbjclhmeoaaGreatNy
import Derived.Test.YtbdimbjclhmeoaaGreatVV
import Derived.Test.YtbdimbjclhmeoaaGreatRa
set_option linter.unusedSimpArgs false
set_option linter.unusedVariables false
namespace Go.Tr
open Go Go.RowKit
structure aK where
 a:Int
 b:Int
 class_:Int
 first_:Int
 count:Int
def aK.enc(x:aK):List D:=[.v (.int .i64 x.a),.v (.int .i64 x.b),.v (.int .i64 x.class_),.v (.int .i64 x.first_),.v (.int .i64 x.count)]
theorem aK.bD(x:aK):x.enc.length=5:=rfl
theorem aK.us{w:World}{x:aK}{bs us}(h0:TN w x.enc bs us):us=[.int .i64 x.a,.int .i64 x.b,.int .i64 x.class_,.int .i64 x.first_,.int .i64 x.count]∧bs=[]:=by
 unfold aK.enc at h0;obtain⟨u0,rfl,h1⟩:=TN.iD h0;obtain⟨u1,rfl,h2⟩:=TN.iD h1;obtain⟨u2,rfl,h3⟩:=TN.iD h2;obtain⟨u3,rfl,h4⟩:=TN.iD h3;obtain⟨u4,rfl,h5⟩:=TN.iD h4;obtain⟨rfl,rfl⟩:=TN.end_ h5;exact⟨rfl,rfl⟩
theorem aK.Dn{w:World}{x:aK}:TN w x.enc ([]) [.int .i64 x.a,.int .i64 x.b,.int .i64 x.class_,.int .i64 x.first_,.int .i64 x.count]:=by
 have h:=(show TN w [.v (.int .i64 x.a),.v (.int .i64 x.b),.v (.int .i64 x.class_),.v (.int .i64 x.first_),.v (.int .i64 x.count)] _ _ from TN.nR rfl (TN.nR rfl (TN.nR rfl (TN.nR rfl (TN.nR rfl (TN.done))))))
 try simp only[qS]at h
 unfold aK.enc
 first|exact h|simpa only[qF]using h
theorem aK.sS{w:World}{xs:List aK}{bs:List Nat}{A:Option Addr}{n n' c:Nat}(h:T1 w (.sl n (xs.flatMap aK.enc)) bs (.slice A n' c))(hm:xs.length=n){k:Nat}(hk:k<n):
  ∃(b off:Nat) (x:aK),A=some ⟨b,off,none⟩∧b<w.heap.size∧Hid (xs[k]? =some x)∧w.cell? ⟨b,off+k*5,none⟩=some (.int .i64 x.a)∧w.cell? ⟨b,off+k*5+1,none⟩=some (.int .i64 x.b)∧w.cell? ⟨b,off+k*5+2,none⟩=some (.int .i64 x.class_)∧w.cell? ⟨b,off+k*5+3,none⟩=some (.int .i64 x.first_)∧w.cell? ⟨b,off+k*5+4,none⟩=some (.int .i64 x.count):=by
 obtain⟨_,b,off,p1,p2,p3,us,hA,_,hb,hc,ht⟩:=T1.at_ aK.bD h hm hk;obtain⟨rfl,_⟩:=aK.us ht;exact⟨b,off,xs[k],hA,hb,qB (hm▸hk),hc 0 _ rfl,hc 1 _ rfl,hc 2 _ rfl,hc 3 _ rfl,hc 4 _ rfl⟩
theorem aK.CS{x y:aK}(h0:x.a=y.a)(h1:x.b=y.b)(h2:x.class_=y.class_)(h3:x.first_=y.first_)(h4:x.count=y.count):x=y:=by
 cases x;cases y;simp_all
def aK.wt(_x:aK):Nat:=0
def aK.small(_x:aK):Prop:=True
universe u
theorem Fz{u:U}:∀xs:List (El u),(List.flatMap (enc u) xs).length=xs.length*u.size
 |[]=>by simp
 |x::xs=>by rw[qU,qA,bD,Fz xs,qI,Nat.add_mul];omega
theorem Inv.Zak{cx:Cx}{β:Nat→Value}{w:World}{g:Nat}{t:TypeId}{s:Nat}{u:U}{xs:List (El u)}{us:List Value}(h:Inv cx.w0 [] w [Tok.res cx β (.row g t s u xs us)]):
  ∃A c q,β g=.slice A (List.length (α:=El u) xs) c∧T1 w (.sl (List.length (α:=El u) xs) (List.flatMap (enc u) xs)) q (.slice A (List.length (α:=El u) xs) c)∧Own cx.w0.heap.size w q:=by
 obtain⟨G,⟨F,G',rfl,⟨hs,bs,raw,rfl,hg,_⟩,rfl,_⟩,h3⟩:=h.sep;obtain⟨A,c,q,h1,h2,h4,h5⟩:=hg.Zai (by subst hs;exact Fz xs);exact⟨A,c,q,h1,h2,h4.1,fun b hb=>⟨(h3 b (by simpa using h5 b hb)).elim (fun h=>by simp at h) id,(h4.2 b hb).2⟩⟩
def rV(x:aW):List aj:=x.agents.map nA
theorem VI(x:aW):gN (rV x)=x:=by
 unfold gN rV;rw[List.map_map]
 have:x.agents.map (gA∘nA)=x.agents:=by
  conv=>rhs;rw[←List.map_id x.agents]
  exact List.map_congr_left fun a _=>ZG a
 rw[this]
theorem J7(x:aW):x.enc=enc aZ (rV x):=by rw[←Yi,VI]
def VG(e:aB):aK:=⟨e.1,e.2.1,e.2.2.1,e.2.2.2.1,e.2.2.2.2⟩
theorem RQ(xs:List aB):(xs.map VG).flatMap aK.enc=List.flatMap (enc aP) xs:=by
 induction xs with
 |nil=>rfl
 |cons x l ih=>rw[List.map_cons,qU,qU,ih];rfl
def SS(e:aK):aB:=(e.a,e.b,e.class_,e.first_,e.count)
theorem VW(e:aK):e.enc=enc aP (SS e):=rfl
theorem Qf(xs:List aW):xs.flatMap aW.enc=List.flatMap (enc aZ) (xs.map rV):=by
 induction xs with
 |nil=>rfl
 |cons x l ih=>rw[List.map_cons,qU,qU,ih,J7]
theorem SY(xs:List aK):xs.flatMap aK.enc=List.flatMap (enc aP) (xs.map SS):=by
 induction xs with
 |nil=>rfl
 |cons x l ih=>rw[List.map_cons,qU,qU,ih,VW]
section
variable {cx:Cx}{β:Nat→Value}{w:World}
theorem Jw{x:List aW}{A:Option Addr}{c:Nat}{p:List Nat}(h:T1 w (.sl x.length (x.flatMap aW.enc)) p (.slice A x.length c)):Den ⟨w,[]⟩ β (.rsl aZ (x.map rV)) (.slice A x.length c):=by
 unfold Den;have e:(List.length (α:=El aZ) (x.map rV))=x.length:=qV _;rw[e,←Qf];exact⟨p,h,fun b hb=>by simp⟩
theorem NI{x:List aK}{A:Option Addr}{c:Nat}{p:List Nat}(h:T1 w (.sl x.length (x.flatMap aK.enc)) p (.slice A x.length c)):Den ⟨w,[]⟩ β (.rsl aP (x.map SS)) (.slice A x.length c):=by
 unfold Den;have e:(List.length (α:=El aP) (x.map SS))=x.length:=qV _;rw[e,←SY];exact⟨p,h,fun b hb=>by simp⟩
theorem NJ{x:aW}{p:List Nat}{u:List Value}(h:TN w x.enc p u):Den ⟨w,[]⟩ β (.agg [.rsl aF (rV x)]) (.agg u.toArray):=by
 unfold Den;refine⟨u,rfl,nW aZ (rV x) (oW.of (bs:=p) ?_)⟩;rw[←J7];exact h
theorem lW{s:SV}{v:Value}{l:List SV}{vs:List Value}(h:Den cx β s v)(k:aH cx β l vs):aH cx β (s::l) (v::vs):=by
 unfold aH;exact⟨v,vs,rfl,h,k⟩
theorem Jy:aH cx β [] []:=by unfold aH;rfl
theorem aA.plain{P:Program}{f:Nat}{args:List SV}{r:SV}{v:Value}{vs:List Value}{w:World}(h:aA P f args [] r [])(hd:∀β,aH ⟨w,[]⟩ β args vs)(hv:∀β v',Den ⟨w,[]⟩ β r v'→v'=v):Calls P f vs.toArray w fun e w'=>e=.returned v∧Ext w w':=by
 refine(h.2 ⟨w,[]⟩ (fun _=>undef) w [] vs (Inv.AQ w) (hd _)).mono ?_;rintro e w' ⟨v',β',rfl,_,h1,h2⟩;exact⟨by rw[hv _ _ h1],h2.Ep⟩
end
end Go.Tr
