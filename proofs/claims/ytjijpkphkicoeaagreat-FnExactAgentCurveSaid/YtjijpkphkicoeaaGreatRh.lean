
/- Data of the program as structures, and how they lie in memory. No program in it. Printed by gen_fam.py. -/
import Derived.Test.YtjijpkphkicoeaaGreatSc
import Derived.Test.YtjijpkphkicoeaaGreatNz
import Derived.Test.YtjijpkphkicoeaaGreatVV
import Derived.Test.YtjijpkphkicoeaaGreatRa
set_option linter.unusedSimpArgs false
set_option linter.unusedVariables false
namespace Go.Tr
open Go Go.RowKit
structure GEvent where
 a:Int
 b:Int
 class_:Int
 first_:Int
 count:Int
def GEvent.enc(x:GEvent):List D:=[.v (.int .i64 x.a),.v (.int .i64 x.b),.v (.int .i64 x.class_),.v (.int .i64 x.first_),.v (.int .i64 x.count)]
theorem GEvent.aN(x:GEvent):x.enc.length=5:=rfl
theorem GEvent.us{w:World}{x:GEvent}{bs us}(h0:TN w x.enc bs us):us=[.int .i64 x.a,.int .i64 x.b,.int .i64 x.class_,.int .i64 x.first_,.int .i64 x.count]∧bs=[]:=by
 unfold GEvent.enc at h0;obtain⟨u0,rfl,h1⟩:=TN.gU h0;obtain⟨u1,rfl,h2⟩:=TN.gU h1;obtain⟨u2,rfl,h3⟩:=TN.gU h2;obtain⟨u3,rfl,h4⟩:=TN.gU h3;obtain⟨u4,rfl,h5⟩:=TN.gU h4;obtain⟨rfl,rfl⟩:=TN.end_ h5;exact⟨rfl,rfl⟩
theorem GEvent.wI{w:World}{x:GEvent}:TN w x.enc ([]) [.int .i64 x.a,.int .i64 x.b,.int .i64 x.class_,.int .i64 x.first_,.int .i64 x.count]:=by
 have h:=(show TN w [.v (.int .i64 x.a),.v (.int .i64 x.b),.v (.int .i64 x.class_),.v (.int .i64 x.first_),.v (.int .i64 x.count)] _ _ from TN.kZ rfl (TN.kZ rfl (TN.kZ rfl (TN.kZ rfl (TN.kZ rfl (TN.done))))))
 try simp only[List.append_nil]at h
 unfold GEvent.enc
 first|exact h|simpa only[List.append_assoc]using h
theorem GEvent.qQ{w:World}{xs:List GEvent}{bs:List Nat}{A:Option Addr}{n n' c:Nat}(h:T1 w (.sl n (xs.flatMap GEvent.enc)) bs (.slice A n' c))(hm:xs.length=n){k:Nat}(hk:k<n):
  ∃(b off:Nat) (x:GEvent),A=some ⟨b,off,none⟩∧b<w.heap.size∧Hid (xs[k]? =some x)∧w.cell? ⟨b,off+k*5,none⟩=some (.int .i64 x.a)∧w.cell? ⟨b,off+k*5+1,none⟩=some (.int .i64 x.b)∧w.cell? ⟨b,off+k*5+2,none⟩=some (.int .i64 x.class_)∧w.cell? ⟨b,off+k*5+3,none⟩=some (.int .i64 x.first_)∧w.cell? ⟨b,off+k*5+4,none⟩=some (.int .i64 x.count):=by
 obtain⟨_,b,off,p1,p2,p3,us,hA,_,hb,hc,ht⟩:=T1.at_ GEvent.aN h hm hk;obtain⟨rfl,_⟩:=GEvent.us ht;exact⟨b,off,xs[k],hA,hb,List.getElem?_eq_getElem (hm▸hk),hc 0 _ rfl,hc 1 _ rfl,hc 2 _ rfl,hc 3 _ rfl,hc 4 _ rfl⟩
theorem GEvent.AJ{x y:GEvent}(h0:x.a=y.a)(h1:x.b=y.b)(h2:x.class_=y.class_)(h3:x.first_=y.first_)(h4:x.count=y.count):x=y:=by
 cases x;cases y;simp_all
def GEvent.wt(_x:GEvent):Nat:=0
def GEvent.small(_x:GEvent):Prop:=True
universe u
theorem encs_len'{u:U}:∀xs:List (El u),(List.flatMap (enc u) xs).length=xs.length*u.size
 |[]=>by simp
 |x::xs=>by rw[List.flatMap_cons,List.length_append,aN,encs_len' xs,List.length_cons,Nat.add_mul];omega
theorem Inv.row1'{cx:Cx}{β:Nat→Value}{w:World}{g:Nat}{t:TypeId}{s:Nat}{u:U}{xs:List (El u)}{us:List Value}(h:Inv cx.w0 [] w [Tok.res cx β (.row g t s u xs us)]):
  ∃A c q,β g=.slice A (List.length (α:=El u) xs) c∧T1 w (.sl (List.length (α:=El u) xs) (List.flatMap (enc u) xs)) q (.slice A (List.length (α:=El u) xs) c)∧Own cx.w0.heap.size w q:=by
 obtain⟨G,⟨F,G',rfl,⟨hs,bs,raw,rfl,hg,_⟩,rfl,_⟩,h3⟩:=h.sep;obtain⟨A,c,q,h1,h2,h4,h5⟩:=hg.resF (by subst hs;exact encs_len' xs);exact⟨A,c,q,h1,h2,h4.1,fun b hb=>⟨(h3 b (by simpa using h5 b hb)).elim (fun h=>by simp at h) id,(h4.2 b hb).2⟩⟩
def nNet(x:GNet):List NAgent:=x.agents.map nA
theorem OM(x:GNet):gN (nNet x)=x:=by
 unfold gN nNet;rw[List.map_map]
 have:x.agents.map (gA∘nA)=x.agents:=by
  conv=>rhs;rw[←List.map_id x.agents]
  exact List.map_congr_left fun a _=>Je a
 rw[this]
theorem Fx(x:GNet):x.enc=enc uNet (nNet x):=by rw[←gN_enc,OM]
theorem KD(xs:List GNet):xs.flatMap GNet.enc=List.flatMap (enc uNet) (xs.map nNet):=by
 induction xs with
 |nil=>rfl
 |cons x l ih=>rw[List.map_cons,List.flatMap_cons,List.flatMap_cons,ih,Fx]
section
variable {cx:Cx}{β:Nat→Value}{w:World}
theorem den_nets{x:List GNet}{A:Option Addr}{c:Nat}{p:List Nat}(h:T1 w (.sl x.length (x.flatMap GNet.enc)) p (.slice A x.length c)):Den ⟨w,[]⟩ β (.rsl uNet (x.map nNet)) (.slice A x.length c):=by
 unfold Den;have e:(List.length (α:=El uNet) (x.map nNet))=x.length:=List.length_map _;rw[e,←KD];exact⟨p,h,fun b hb=>by simp⟩
theorem den_net{x:GNet}{p:List Nat}{u:List Value}(h:TN w x.enc p u):Den ⟨w,[]⟩ β (.agg [.rsl uAgent (nNet x)]) (.agg u.toArray):=by
 unfold Den;refine⟨u,rfl,oF uNet (nNet x) (uP.of (bs:=p) ?_)⟩;rw[←Fx];exact h
theorem den_ints{x:List Int}{A:Option Addr}{c:Nat}{p:List Nat}(h:T1 w (.sl x.length (x.flatMap intE)) p (.slice A x.length c)):Den ⟨w,[]⟩ β (.rsl (.int .i64) x) (.slice A x.length c):=by
 unfold Den;rw[enc_ints];exact⟨p,h,fun b hb=>by simp⟩
theorem dens_cons{s:SV}{v:Value}{l:List SV}{vs:List Value}(h:Den cx β s v)(k:Dens cx β l vs):Dens cx β (s::l) (v::vs):=by
 unfold Dens;exact⟨v,vs,rfl,h,k⟩
theorem dens_nil:Dens cx β [] []:=by unfold Dens;rfl
theorem FCall.plain{P:Program}{f:Nat}{args:List SV}{r:SV}{v:Value}{vs:List Value}{w:World}(h:FCall P f args [] r [])(hd:∀β,Dens ⟨w,[]⟩ β args vs)(hv:∀β v',Den ⟨w,[]⟩ β r v'→v'=v):Calls P f vs.toArray w fun e w'=>e=.returned v∧Ext w w':=by
 refine(h.2 ⟨w,[]⟩ (fun _=>undef) w [] vs (Inv.start0 w) (hd _)).mono ?_;rintro e w' ⟨v',β',rfl,_,h1,h2⟩;exact⟨by rw[hv _ _ h1],h2.to_ext⟩
end
end Go.Tr
