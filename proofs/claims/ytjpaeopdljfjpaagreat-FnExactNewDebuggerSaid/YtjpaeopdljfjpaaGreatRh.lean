
/- Data of the program as structures, and how they lie in memory. No program in it. Printed by gen_fam.py. -/
import Derived.Test.YtjpaeopdljfjpaaGreatShort
import Derived.Test.YtjpaeopdljfjpaaGreatSc
import Derived.Test.YtjpaeopdljfjpaaGreatNz
import Derived.Test.YtjpaeopdljfjpaaGreatVV
import Derived.Test.YtjpaeopdljfjpaaGreatRa
set_option linter.unusedSimpArgs false
set_option linter.unusedVariables false
namespace Go.Tr
open Go Go.RowKit
structure gy where
 a:Int
 b:Int
 class_:Int
 first_:Int
 count:Int
def gy.enc(x:gy):List D:=[.v (.int .i64 x.a),.v (.int .i64 x.b),.v (.int .i64 x.class_),.v (.int .i64 x.first_),.v (.int .i64 x.count)]
theorem gy.aR(x:gy):x.enc.length=5:=rfl
theorem gy.us{w:World}{x:gy}{bs us}(h0:TN w x.enc bs us):us=[.int .i64 x.a,.int .i64 x.b,.int .i64 x.class_,.int .i64 x.first_,.int .i64 x.count]∧bs=[]:=by
 unfold gy.enc at h0;obtain⟨u0,rfl,h1⟩:=TN.gL h0;obtain⟨u1,rfl,h2⟩:=TN.gL h1;obtain⟨u2,rfl,h3⟩:=TN.gL h2;obtain⟨u3,rfl,h4⟩:=TN.gL h3;obtain⟨u4,rfl,h5⟩:=TN.gL h4;obtain⟨rfl,rfl⟩:=TN.end_ h5;exact⟨rfl,rfl⟩
theorem gy.oZ{w:World}{x:gy}:TN w x.enc ([]) [.int .i64 x.a,.int .i64 x.b,.int .i64 x.class_,.int .i64 x.first_,.int .i64 x.count]:=by
 have h:=(show TN w [.v (.int .i64 x.a),.v (.int .i64 x.b),.v (.int .i64 x.class_),.v (.int .i64 x.first_),.v (.int .i64 x.count)] _ _ from TN.kE rfl (TN.kE rfl (TN.kE rfl (TN.kE rfl (TN.kE rfl (TN.done))))))
 try simp only[qS]at h
 unfold gy.enc
 first|exact h|simpa only[qF]using h
theorem gy.lW{w:World}{xs:List gy}{bs:List Nat}{A:Option Addr}{n n' c:Nat}(h:T1 w (.sl n (xs.flatMap gy.enc)) bs (.slice A n' c))(hm:xs.length=n){k:Nat}(hk:k<n):
  ∃(b off:Nat) (x:gy),A=some ⟨b,off,none⟩∧b<w.heap.size∧Hid (xs[k]? =some x)∧w.cell? ⟨b,off+k*5,none⟩=some (.int .i64 x.a)∧w.cell? ⟨b,off+k*5+1,none⟩=some (.int .i64 x.b)∧w.cell? ⟨b,off+k*5+2,none⟩=some (.int .i64 x.class_)∧w.cell? ⟨b,off+k*5+3,none⟩=some (.int .i64 x.first_)∧w.cell? ⟨b,off+k*5+4,none⟩=some (.int .i64 x.count):=by
 obtain⟨_,b,off,p1,p2,p3,us,hA,_,hb,hc,ht⟩:=T1.at_ gy.aR h hm hk;obtain⟨rfl,_⟩:=gy.us ht;exact⟨b,off,xs[k],hA,hb,qB (hm▸hk),hc 0 _ rfl,hc 1 _ rfl,hc 2 _ rfl,hc 3 _ rfl,hc 4 _ rfl⟩
theorem gy.vH{x y:gy}(h0:x.a=y.a)(h1:x.b=y.b)(h2:x.class_=y.class_)(h3:x.first_=y.first_)(h4:x.count=y.count):x=y:=by
 cases x;cases y;simp_all
def gy.wt(_x:gy):Nat:=0
def gy.small(_x:gy):Prop:=True
universe u
theorem Bb{u:U}:∀xs:List (El u),(List.flatMap (enc u) xs).length=xs.length*u.size
 |[]=>by simp
 |x::xs=>by rw[qU,qA,aR,Bb xs,qI,Nat.add_mul];omega
def fM(x:aG):List ah:=x.agents.map nA
theorem MG(x:aG):gN (fM x)=x:=by
 unfold gN fM;rw[List.map_map]
 have:x.agents.map (gA∘nA)=x.agents:=by
  conv=>rhs;rw[←List.map_id x.agents]
  exact List.map_congr_left fun a _=>HY a
 rw[this]
theorem rH(x:aG):x.enc=enc fG (fM x):=by rw[←Cq,MG]
theorem Bt(xs:List aG):xs.flatMap aG.enc=List.flatMap (enc fG) (xs.map fM):=by
 induction xs with
 |nil=>rfl
 |cons x l ih=>rw[List.map_cons,qU,qU,ih,rH]
section
variable {cx:Cx}{β:Nat→Value}{w:World}
theorem DN{x:List aG}{A:Option Addr}{c:Nat}{p:List Nat}(h:T1 w (.sl x.length (x.flatMap aG.enc)) p (.slice A x.length c)):Den ⟨w,[]⟩ β (.rsl fG (x.map fM)) (.slice A x.length c):=by
 unfold Den;have e:(List.length (α:=El fG) (x.map fM))=x.length:=qV _;rw[e,←Bt];exact⟨p,h,fun b hb=>by simp⟩
theorem He{x:aG}{p:List Nat}{u:List Value}(h:TN w x.enc p u):Den ⟨w,[]⟩ β (.agg [.rsl bf (fM x)]) (.agg u.toArray):=by
 unfold Den;refine⟨u,rfl,ni fG (fM x) (nk.of (bs:=p) ?_)⟩;rw[←rH];exact h
theorem DL{x:List Int}{A:Option Addr}{c:Nat}{p:List Nat}(h:T1 w (.sl x.length (x.flatMap aT)) p (.slice A x.length c)):Den ⟨w,[]⟩ β (.rsl (.int .i64) x) (.slice A x.length c):=by
 unfold Den;rw[qz];exact⟨p,h,fun b hb=>by simp⟩
theorem jI{s:SV}{v:Value}{l:List SV}{vs:List Value}(h:Den cx β s v)(k:aF cx β l vs):aF cx β (s::l) (v::vs):=by
 unfold aF;exact⟨v,vs,rfl,h,k⟩
theorem DR:aF cx β [] []:=by unfold aF;rfl
theorem bg.plain{P:Program}{f:Nat}{args:List SV}{r:SV}{v:Value}{vs:List Value}{w:World}(h:bg P f args [] r [])(hd:∀β,aF ⟨w,[]⟩ β args vs)(hv:∀β v',Den ⟨w,[]⟩ β r v'→v'=v):Calls P f vs.toArray w fun e w'=>e=.returned v∧Ext w w':=by
 refine(h.2 ⟨w,[]⟩ (fun _=>undef) w [] vs (Inv.uK w) (hd _)).mono ?_;rintro e w' ⟨v',β',rfl,_,h1,h2⟩;exact⟨by rw[hv _ _ h1],h2.Ae⟩
end
end Go.Tr
