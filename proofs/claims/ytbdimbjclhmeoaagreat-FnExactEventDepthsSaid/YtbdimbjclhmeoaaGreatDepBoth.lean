
/- EventDepths: both sides; the contracts for the law. -/
import Derived.Test.YtbdimbjclhmeoaaGreatKt
import Derived.Test.YtbdimbjclhmeoaaGreatKh
import Derived.Test.YtbdimbjclhmeoaaGreatKm
import Derived.Test.YtbdimbjclhmeoaaGreatKEv
set_option linter.unusedSimpArgs false
set_option linter.unusedVariables false
namespace Go.Proofs.YtbdimbjclhmeoaaGreat
open Go Go.RowKit Go.Proofs Go.Tr
def Zbi(f:Nat)(args:List SV)(l:List Int)(c:Int):Prop:=
 (l=[]/\aA Tryz.prog f args [] (.tup [.raw (.slice none 0 0),.int .i64 c]) [])\/aA Tryz.prog f args [] (.tup [.sl 10000,.int .i64 c]) [.row 10000 2 1 (.int .i64) l []]
theorem ZaA{f:Nat}{args:List SV}{l:List Int}{c:Int}{vs:bW}{w:World}(h:Zbi f args l c)(hd:∀β,aF ⟨w,[]⟩ β args vs):
  Calls Tryz.prog f vs.toArray w fun e w'=>∃(B0:Option Addr) (d0:Nat) (q0:List Nat),e=.returned (.tuple #[.slice B0 l.length d0,.int .i64 c])/\Ext w w'/\T1 w' (.sl l.length (l.flatMap dJ)) q0 (.slice B0 l.length d0)/\Own w.heap.size w' (q0):=by
 rcases h with⟨rfl,h⟩|h
 .refine(h.2 ⟨w,[]⟩ (fun _=>undef) w [] vs (Inv.FH w) (hd _)).mono ?_;rintro e w' ⟨v',β',rfl,_,h1,h2⟩;unfold Den at h1;obtain⟨us,rfl,h1⟩:=h1;unfold aF at h1;obtain⟨y1,us1,rfl,k1,h1⟩:=h1;unfold aF at h1;obtain⟨y2,us2,rfl,k2,h1⟩:=h1;unfold aF at h1;subst h1;unfold Den at k1 k2;subst k2;obtain⟨rfl,_⟩:=k1;exact⟨none,0,[],rfl,h2.Oi,T1.empty none,Own.nil _ _⟩
 .refine(h.2 ⟨w,[]⟩ (fun _=>undef) w [] vs (Inv.FH w) (hd _)).mono ?_;rintro e w' ⟨v',β',rfl,_,h1,h2⟩;have hI':Inv (Cx.mk w []).w0 [] w' [Tok.res ⟨w,[]⟩ β' (.row 10000 2 1 (.int .i64) l [])]:=by simpa using h2
  obtain⟨A,c',q,r1,r2,r3⟩:=hI'.ZbN;unfold Den at h1;obtain⟨us,rfl,h1⟩:=h1;unfold aF at h1;obtain⟨y1,us1,rfl,k1,h1⟩:=h1;unfold aF at h1;obtain⟨y2,us2,rfl,k2,h1⟩:=h1;unfold aF at h1;subst h1;unfold Den at k1 k2;obtain⟨rfl,_⟩:=k1;subst k2;rw[r1];refine⟨A,c',q,rfl,h2.Oi,?_,r3⟩;rw[KG]at r2;exact r2
theorem Zaw(bk:iQ)(xs:aS)(es:List aB):∃(out:List Int) (c:Int),out.length<=300/\Zbi 33 (IY bk xs es) out c/\Zbi 32 (IY bk xs es) out c:=by
 cases ZaV bk xs es with
 |bad c hc hI hS=>
  refine⟨[],c,by simp,.inl ⟨rfl,Zb4 hc hI⟩,.inl ⟨rfl,?_⟩⟩;rcases hS with h|⟨g,h1,h2⟩
  .exact Zci bk xs es hc h
  .exact Zcj bk xs es hc h1 h2
 |ok r g hI hS hR hl he hf hd hr=>
  refine⟨r.dep,0,by rw[hd,U7];exact hl,.inr (Zb7 hI),.inr ?_⟩;rw[hd];exact Zck bk xs es hl (by omega) hr hS hR
noncomputable def Zau(x0:List bC)(x1:bC)(x2:List aM):List Int×Int:=
 (Classical.choose (Zaw (x0.map r9) (r9 x1) (x2.map Uv)),Classical.choose (Classical.choose_spec (Zaw (x0.map r9) (r9 x1) (x2.map Uv))))
theorem Zak(x0:List bC)(x1:bC)(x2:List aM)(r0:List Int)(r1:Int)(h:(r0,r1)=Zau x0 x1 x2):
  r0.length<=300/\Zbi 33 (IY (x0.map r9) (r9 x1) (x2.map Uv)) r0 r1/\Zbi 32 (IY (x0.map r9) (r9 x1) (x2.map Uv)) r0 r1:=by
 have k:=Classical.choose_spec (Classical.choose_spec (Zaw (x0.map r9) (r9 x1) (x2.map Uv)));have h1:r0=Classical.choose (Zaw (x0.map r9) (r9 x1) (x2.map Uv)):=congrArg Prod.fst h;have h2:r1=Classical.choose (Classical.choose_spec (Zaw (x0.map r9) (r9 x1) (x2.map Uv))):=congrArg Prod.snd h;subst h1 h2;exact k
section
variable (a0:List bC){A0:Option Addr}{c0:Nat}{p0:dF}(a1:bC){p1:dF}{u1:bW}(a2:List aM){A2:Option Addr}{c2:Nat}{p2:dF}(r0:List Int)(r1:Int)
theorem Zay(hR:(r0,r1)=Zau a0 a1 a2)(w:World)(h0:T1 w (.sl a0.length (a0.flatMap bC.enc)) p0 (.slice A0 a0.length c0))(h1:TN w a1.enc p1 u1)(h2:T1 w (.sl a2.length (a2.flatMap aM.enc)) p2 (.slice A2 a2.length c2)):
  Calls Tryz.prog 32 #[.slice A0 a0.length c0,.agg u1.toArray,.slice A2 a2.length c2] w fun e w'=>∃(B0:Option Addr) (d0:Nat) (q0:List Nat),e=.returned (.tuple #[.slice B0 r0.length d0,.int .i64 r1])/\Ext w w'/\T1 w' (.sl r0.length (r0.flatMap dJ)) q0 (.slice B0 r0.length d0):=
 (ZaA (vs:=[.slice A0 a0.length c0,.agg u1.toArray,.slice A2 a2.length c2]) (Zak a0 a1 a2 r0 r1 hR).2.2 (fun _=>p8 (Kz h0) (p8 (OV h1) (p8 (OU h2) KA)))).mono fun _ _ ⟨B,d,q,k1,k2,k3,_⟩=>⟨B,d,q,k1,k2,k3⟩
theorem Zav(hR:(r0,r1)=Zau a0 a1 a2)(w:World)(h0:T1 w (.sl a0.length (a0.flatMap bC.enc)) p0 (.slice A0 a0.length c0))(h1:TN w a1.enc p1 u1)(h2:T1 w (.sl a2.length (a2.flatMap aM.enc)) p2 (.slice A2 a2.length c2)):
  Calls Tryz.prog 33 #[.slice A0 a0.length c0,.agg u1.toArray,.slice A2 a2.length c2] w fun e w'=>∃(B0:Option Addr) (d0:Nat) (q0:List Nat),e=.returned (.tuple #[.slice B0 r0.length d0,.int .i64 r1])/\Ext w w'/\T1 w' (.sl r0.length (r0.flatMap dJ)) q0 (.slice B0 r0.length d0)/\Own w.heap.size w' (q0):=
 ZaA (vs:=[.slice A0 a0.length c0,.agg u1.toArray,.slice A2 a2.length c2]) (Zak a0 a1 a2 r0 r1 hR).2.1 (fun _=>p8 (Kz h0) (p8 (OV h1) (p8 (OU h2) KA)))
theorem Zax{Q0 Q1 Q2:Prop}(hR:(r0,r1)=Zau a0 a1 a2)(_:Q0)(_:Q1)(_:Q2):cN (r0.flatMap dJ)<=1099511627776:=by
 rw[Zb6];have:=(Zak a0 a1 a2 r0 r1 hR).1;omega
end
end Go.Proofs.YtbdimbjclhmeoaaGreat
