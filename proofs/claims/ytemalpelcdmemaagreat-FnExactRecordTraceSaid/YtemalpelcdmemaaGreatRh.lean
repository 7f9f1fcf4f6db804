
/- Data of the program as structures, and how they lie in memory. No program in it. Printed by gen_fam.py. -/
import Derived.Test.YtemalpelcdmemaaGreatSc
import Derived.Test.YtemalpelcdmemaaGreatNw
import Derived.Test.YtemalpelcdmemaaGreatVV
import Derived.Test.YtemalpelcdmemaaGreatRa
set_option linter.unusedSimpArgs false
set_option linter.unusedVariables false
namespace Go.Tr
open Go Go.RowKit
structure aX where
 a:Int
 b:Int
 class_:Int
 first_:Int
 count:Int
def aX.enc(x:aX):List D:=[.v (.int .i64 x.a),.v (.int .i64 x.b),.v (.int .i64 x.class_),.v (.int .i64 x.first_),.v (.int .i64 x.count)]
theorem aX.bU(x:aX):x.enc.length=5:=rfl
theorem aX.us{w:World}{x:aX}{bs us}(h0:TN w x.enc bs us):us=[.int .i64 x.a,.int .i64 x.b,.int .i64 x.class_,.int .i64 x.first_,.int .i64 x.count]∧bs=[]:=by
 unfold aX.enc at h0;obtain⟨u0,rfl,h1⟩:=TN.kY h0;obtain⟨u1,rfl,h2⟩:=TN.kY h1;obtain⟨u2,rfl,h3⟩:=TN.kY h2;obtain⟨u3,rfl,h4⟩:=TN.kY h3;obtain⟨u4,rfl,h5⟩:=TN.kY h4;obtain⟨rfl,rfl⟩:=TN.end_ h5;exact⟨rfl,rfl⟩
theorem aX.BM{w:World}{x:aX}:TN w x.enc ([]) [.int .i64 x.a,.int .i64 x.b,.int .i64 x.class_,.int .i64 x.first_,.int .i64 x.count]:=by
 have h:=(show TN w [.v (.int .i64 x.a),.v (.int .i64 x.b),.v (.int .i64 x.class_),.v (.int .i64 x.first_),.v (.int .i64 x.count)] _ _ from TN.sH rfl (TN.sH rfl (TN.sH rfl (TN.sH rfl (TN.sH rfl (TN.done))))))
 try simp only[List.append_nil]at h
 unfold aX.enc
 first|exact h|simpa only[List.append_assoc]using h
theorem aX.wM{w:World}{xs:List aX}{bs:List Nat}{A:Option Addr}{n n' c:Nat}(h:T1 w (.sl n (xs.flatMap aX.enc)) bs (.slice A n' c))(hm:xs.length=n){k:Nat}(hk:k<n):
  ∃(b off:Nat) (x:aX),A=some ⟨b,off,none⟩∧b<w.heap.size∧Hid (xs[k]? =some x)∧w.cell? ⟨b,off+k*5,none⟩=some (.int .i64 x.a)∧w.cell? ⟨b,off+k*5+1,none⟩=some (.int .i64 x.b)∧w.cell? ⟨b,off+k*5+2,none⟩=some (.int .i64 x.class_)∧w.cell? ⟨b,off+k*5+3,none⟩=some (.int .i64 x.first_)∧w.cell? ⟨b,off+k*5+4,none⟩=some (.int .i64 x.count):=by
 obtain⟨_,b,off,p1,p2,p3,us,hA,_,hb,hc,ht⟩:=T1.at_ aX.bU h hm hk;obtain⟨rfl,_⟩:=aX.us ht;exact⟨b,off,xs[k],hA,hb,List.getElem?_eq_getElem (hm▸hk),hc 0 _ rfl,hc 1 _ rfl,hc 2 _ rfl,hc 3 _ rfl,hc 4 _ rfl⟩
theorem aX.Iq{x y:aX}(h0:x.a=y.a)(h1:x.b=y.b)(h2:x.class_=y.class_)(h3:x.first_=y.first_)(h4:x.count=y.count):x=y:=by
 cases x;cases y;simp_all
def aX.wt(_x:aX):Nat:=0
def aX.small(_x:aX):Prop:=True
universe u
theorem Lm{u:U}:∀xs:List (El u),(List.flatMap (enc u) xs).length=xs.length*u.size
 |[]=>by simp
 |x::xs=>by rw[List.flatMap_cons,List.length_append,bU,Lm xs,List.length_cons,Nat.add_mul];omega
theorem Inv.Zdj{cx:Cx}{β:Nat→Value}{w:World}{g:Nat}{t:TypeId}{s:Nat}{u:U}{xs:List (El u)}{us:List Value}(h:Inv cx.w0 [] w [Tok.res cx β (.row g t s u xs us)]):
  ∃A c q,β g=.slice A (List.length (α:=El u) xs) c∧T1 w (.sl (List.length (α:=El u) xs) (List.flatMap (enc u) xs)) q (.slice A (List.length (α:=El u) xs) c)∧Own cx.w0.heap.size w q:=by
 obtain⟨G,⟨F,G',rfl,⟨hs,bs,raw,rfl,hg,_⟩,rfl,_⟩,h3⟩:=h.sep;obtain⟨A,c,q,h1,h2,h4,h5⟩:=hg.Zdi (by subst hs;exact Lm xs);exact⟨A,c,q,h1,h2,h4.1,fun b hb=>⟨(h3 b (by simpa using h5 b hb)).elim (fun h=>by simp at h) id,(h4.2 b hb).2⟩⟩
def vR(x:aU):List NAgent:=x.agents.map nA
theorem Zad(x:aU):gN (vR x)=x:=by
 unfold gN vR;rw[List.map_map]
 have:x.agents.map (gA∘nA)=x.agents:=by
  conv=>rhs;rw[←List.map_id x.agents]
  exact List.map_congr_left fun a _=>Vd a
 rw[this]
theorem Qm(x:aU):x.enc=enc uNet (vR x):=by rw[←Nv,Zad]
def gEv(e:NEvent):aX:=⟨e.1,e.2.1,e.2.2.1,e.2.2.2.1,e.2.2.2.2⟩
theorem XY(xs:List NEvent):(xs.map gEv).flatMap aX.enc=List.flatMap (enc uEvent) xs:=by
 induction xs with
 |nil=>rfl
 |cons x l ih=>rw[List.map_cons,List.flatMap_cons,List.flatMap_cons,ih];rfl
theorem WE(xs:List aU):xs.flatMap aU.enc=List.flatMap (enc uNet) (xs.map vR):=by
 induction xs with
 |nil=>rfl
 |cons x l ih=>rw[List.map_cons,List.flatMap_cons,List.flatMap_cons,ih,Qm]
section
variable {cx:Cx}{β:Nat→Value}{w:World}
theorem Pt{x:List aU}{A:Option Addr}{c:Nat}{p:List Nat}(h:T1 w (.sl x.length (x.flatMap aU.enc)) p (.slice A x.length c)):Den ⟨w,[]⟩ β (.rsl uNet (x.map vR)) (.slice A x.length c):=by
 unfold Den;have e:(List.length (α:=El uNet) (x.map vR))=x.length:=List.length_map _;rw[e,←WE];exact⟨p,h,fun b hb=>by simp⟩
theorem UZ{x:aU}{p:List Nat}{u:List Value}(h:TN w x.enc p u):Den ⟨w,[]⟩ β (.agg [.rsl uAgent (vR x)]) (.agg u.toArray):=by
 unfold Den;refine⟨u,rfl,vZ uNet (vR x) (BK.of (bs:=p) ?_)⟩;rw[←Qm];exact h
theorem Pq{x:List Int}{A:Option Addr}{c:Nat}{p:List Nat}(h:T1 w (.sl x.length (x.flatMap dQ)) p (.slice A x.length c)):Den ⟨w,[]⟩ β (.rsl (.int .i64) x) (.slice A x.length c):=by
 unfold Den;rw[zn];exact⟨p,h,fun b hb=>by simp⟩
theorem oM{s:SV}{v:Value}{l:List SV}{vs:List Value}(h:Den cx β s v)(k:aR cx β l vs):aR cx β (s::l) (v::vs):=by
 unfold aR;exact⟨v,vs,rfl,h,k⟩
theorem Pv:aR cx β [] []:=by unfold aR;rfl
theorem FCall.plain{P:Program}{f:Nat}{args:List SV}{r:SV}{v:Value}{vs:List Value}{w:World}(h:FCall P f args [] r [])(hd:∀β,aR ⟨w,[]⟩ β args vs)(hv:∀β v',Den ⟨w,[]⟩ β r v'→v'=v):Calls P f vs.toArray w fun e w'=>e=.returned v∧Ext w w':=by
 refine(h.2 ⟨w,[]⟩ (fun _=>undef) w [] vs (Inv.zM w) (hd _)).mono ?_;rintro e w' ⟨v',β',rfl,_,h1,h2⟩;exact⟨by rw[hv _ _ h1],h2.BG⟩
end
end Go.Tr
