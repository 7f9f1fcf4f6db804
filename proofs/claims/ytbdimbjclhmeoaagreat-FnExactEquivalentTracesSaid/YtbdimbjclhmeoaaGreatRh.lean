
/- Data of the program as structures, and how they lie in memory. No program in it. Printed by gen_fam.py. -/
import Derived.Test.YtbdimbjclhmeoaaGreatRa
set_option linter.unusedSimpArgs false
set_option linter.unusedVariables false
namespace Go.Tr
open Go Go.RowKit
structure aM where
 a:Int
 b:Int
 class_:Int
 first_:Int
 count:Int
def aM.enc(x:aM):List D:=[.v (.int .i64 x.a),.v (.int .i64 x.b),.v (.int .i64 x.class_),.v (.int .i64 x.first_),.v (.int .i64 x.count)]
theorem aM.bQ(x:aM):x.enc.length=5:=rfl
theorem aM.us{w:World}{x:aM}{bs us}(h0:TN w x.enc bs us):us=[.int .i64 x.a,.int .i64 x.b,.int .i64 x.class_,.int .i64 x.first_,.int .i64 x.count]/\bs=[]:=by
 unfold aM.enc at h0;obtain⟨u0,rfl,h1⟩:=TN.nu h0;obtain⟨u1,rfl,h2⟩:=TN.nu h1;obtain⟨u2,rfl,h3⟩:=TN.nu h2;obtain⟨u3,rfl,h4⟩:=TN.nu h3;obtain⟨u4,rfl,h5⟩:=TN.nu h4;obtain⟨rfl,rfl⟩:=TN.end_ h5;exact⟨rfl,rfl⟩
theorem aM.JB{w:World}{x:aM}:TN w x.enc ([]) [.int .i64 x.a,.int .i64 x.b,.int .i64 x.class_,.int .i64 x.first_,.int .i64 x.count]:=by
 have h:=(show TN w [.v (.int .i64 x.a),.v (.int .i64 x.b),.v (.int .i64 x.class_),.v (.int .i64 x.first_),.v (.int .i64 x.count)] _ _ from TN.vR rfl (TN.vR rfl (TN.vR rfl (TN.vR rfl (TN.vR rfl (TN.done))))))
 try simp only[qS]at h
 unfold aM.enc
 first|exact h|simpa only[qF]using h
theorem aM.wL{w:World}{xs:List aM}{bs:dF}{A:Option Addr}{n n' c:Nat}(h:T1 w (.sl n (xs.flatMap aM.enc)) bs (.slice A n' c))(hm:xs.length=n){k:Nat}(hk:k<n):
  ∃(b off:Nat) (x:aM),A=some ⟨b,off,none⟩/\b<w.heap.size/\Hid (xs[k]? =some x)/\w.cell? ⟨b,off+k*5,none⟩=some (.int .i64 x.a)/\w.cell? ⟨b,off+k*5+1,none⟩=some (.int .i64 x.b)/\w.cell? ⟨b,off+k*5+2,none⟩=some (.int .i64 x.class_)/\w.cell? ⟨b,off+k*5+3,none⟩=some (.int .i64 x.first_)/\w.cell? ⟨b,off+k*5+4,none⟩=some (.int .i64 x.count):=by
 obtain⟨_,b,off,p1,p2,p3,us,hA,_,hb,hc,ht⟩:=T1.at_ aM.bQ h hm hk;obtain⟨rfl,_⟩:=aM.us ht;exact⟨b,off,xs[k],hA,hb,qB (hm▸hk),hc 0 _ rfl,hc 1 _ rfl,hc 2 _ rfl,hc 3 _ rfl,hc 4 _ rfl⟩
theorem aM.MZ{x y:aM}(h0:x.a=y.a)(h1:x.b=y.b)(h2:x.class_=y.class_)(h3:x.first_=y.first_)(h4:x.count=y.count):x=y:=by
 cases x;cases y;simp_all
def aM.small(_x:aM):Prop:=True
universe u
theorem GI{u:U}:∀xs:List (El u),(List.flatMap (enc u) xs).length=xs.length*u.size
 |[]=>by simp
 |x::xs=>by rw[qU,qA,bQ,GI xs,qI,Nat.add_mul];omega
theorem Inv.ZbN{cx:Cx}{β:Nat->Value}{w:World}{g:Nat}{t:TypeId}{s:Nat}{u:U}{xs:List (El u)}{us:bW}(h:Inv cx.w0 [] w [Tok.res cx β (.row g t s u xs us)]):
  ∃A c q,β g=.slice A (List.length (α:=El u) xs) c/\T1 w (.sl (List.length (α:=El u) xs) (List.flatMap (enc u) xs)) q (.slice A (List.length (α:=El u) xs) c)/\Own cx.w0.heap.size w q:=by
 obtain⟨G,⟨F,G',rfl,⟨hs,bs,raw,rfl,hg,_⟩,rfl,_⟩,h3⟩:=h.sep;obtain⟨A,c,q,h1,h2,h4,h5⟩:=hg.ZbL (by subst hs;exact GI xs);exact⟨A,c,q,h1,h2,h4.1,fun b hb=>⟨(h3 b (by simpa using h5 b hb)).elim (fun h=>by simp at h) id,(h4.2 b hb).2⟩⟩
def r9(x:bC):List ak:=x.agents.map nA
theorem Xf(x:bC):gN (r9 x)=x:=by
 unfold gN r9;rw[List.map_map]
 have:x.agents.map (gA∘nA)=x.agents:=by
  conv=>rhs;rw[<-List.map_id x.agents]
  exact List.map_congr_left fun a _=>Zba a
 rw[this]
theorem K9(x:bC):x.enc=enc aZ (r9 x):=by rw[<-Zw,Xf]
def Xd(e:aB):aM:=⟨e.1,e.2.1,e.2.2.1,e.2.2.2.1,e.2.2.2.2⟩
theorem Tw(xs:List aB):(xs.map Xd).flatMap aM.enc=List.flatMap (enc aV) xs:=by
 induction xs with
 |nil=>rfl
 |cons x l ih=>rw[List.map_cons,qU,qU,ih];rfl
def Uv(e:aM):aB:=(e.a,e.b,e.class_,e.first_,e.count)
theorem Xu(e:aM):e.enc=enc aV (Uv e):=rfl
theorem Rh(xs:List bC):xs.flatMap bC.enc=List.flatMap (enc aZ) (xs.map r9):=by
 induction xs with
 |nil=>rfl
 |cons x l ih=>rw[List.map_cons,qU,qU,ih,K9]
theorem Uw(xs:List aM):xs.flatMap aM.enc=List.flatMap (enc aV) (xs.map Uv):=by
 induction xs with
 |nil=>rfl
 |cons x l ih=>rw[List.map_cons,qU,qU,ih,Xu]
section
variable {cx:Cx}{β:Nat->Value}{w:World}
theorem Kz{x:List bC}{A:Option Addr}{c:Nat}{p:dF}(h:T1 w (.sl x.length (x.flatMap bC.enc)) p (.slice A x.length c)):Den ⟨w,[]⟩ β (.rsl aZ (x.map r9)) (.slice A x.length c):=by
 unfold Den;have e:(List.length (α:=El aZ) (x.map r9))=x.length:=qV _;rw[e,<-Rh];exact⟨p,h,fun b hb=>by simp⟩
theorem OU{x:List aM}{A:Option Addr}{c:Nat}{p:dF}(h:T1 w (.sl x.length (x.flatMap aM.enc)) p (.slice A x.length c)):Den ⟨w,[]⟩ β (.rsl aV (x.map Uv)) (.slice A x.length c):=by
 unfold Den;have e:(List.length (α:=El aV) (x.map Uv))=x.length:=qV _;rw[e,<-Uw];exact⟨p,h,fun b hb=>by simp⟩
theorem OV{x:bC}{p:dF}{u:bW}(h:TN w x.enc p u):Den ⟨w,[]⟩ β (.agg [.rsl aD (r9 x)]) (.agg u.toArray):=by
 unfold Den;refine⟨u,rfl,oh aZ (r9 x) (rY.of (bs:=p) ?_)⟩;rw[<-K9];exact h
theorem p8{s:SV}{v:Value}{l:List SV}{vs:bW}(h:Den cx β s v)(k:aF cx β l vs):aF cx β (s::l) (v::vs):=by
 unfold aF;exact⟨v,vs,rfl,h,k⟩
theorem KA:aF cx β [] []:=by unfold aF;rfl
theorem Zcs{r:Bool}{c:Int}{v:Value}(h:Den cx β (.tup [.bool r,.int .i64 c]) v):v=.tuple #[.bool r,.int .i64 c]:=by
 unfold Den at h;obtain⟨vs,rfl,h⟩:=h;unfold aF at h;obtain⟨v1,vs1,rfl,h1,h⟩:=h;unfold aF at h;obtain⟨v2,vs2,rfl,h2,h⟩:=h;unfold aF at h;subst h;unfold Den at h1 h2;subst h1 h2;rfl
theorem aA.plain{P:Program}{f:Nat}{args:List SV}{r:SV}{v:Value}{vs:bW}{w:World}(h:aA P f args [] r [])(hd:∀β,aF ⟨w,[]⟩ β args vs)(hv:∀β v',Den ⟨w,[]⟩ β r v'->v'=v):Calls P f vs.toArray w fun e w'=>e=.returned v/\Ext w w':=by
 refine(h.2 ⟨w,[]⟩ (fun _=>undef) w [] vs (Inv.FH w) (hd _)).mono ?_;rintro e w' ⟨v',β',rfl,_,h1,h2⟩;exact⟨by rw[hv _ _ h1],h2.Oi⟩
end
end Go.Tr
