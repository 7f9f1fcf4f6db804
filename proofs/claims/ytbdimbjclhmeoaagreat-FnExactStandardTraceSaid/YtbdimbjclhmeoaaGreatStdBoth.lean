
/- StandardTrace: both sides; the contracts for the law. -/
import Derived.Test.YtbdimbjclhmeoaaGreatKt
import Derived.Test.YtbdimbjclhmeoaaGreatKh
import Derived.Test.YtbdimbjclhmeoaaGreatKm
import Derived.Test.YtbdimbjclhmeoaaGreatEvR
set_option linter.unusedSimpArgs false
set_option linter.unusedVariables false
namespace Go.Proofs.YtbdimbjclhmeoaaGreat
open Go Go.RowKit Go.Proofs Go.Tr
theorem xw(bk:iQ)(xs:aS)(es:List aB):∃(out:List aB) (c:Int),out.length<=300/\Ke 35 (IY bk xs es) out c/\Ke 34 (IY bk xs es) out c:=by
 cases ZaV bk xs es with
 |bad c hc hI hS=>
  refine⟨[],c,by simp,.inl ⟨rfl,Yb hc hI⟩,.inl ⟨rfl,?_⟩⟩;rcases hS with h|⟨g,h1,h2⟩
  .exact Qj bk xs es (std1 bk xs es hc h)
  .exact Qj bk xs es (std2 bk xs es h1 h2)
 |ok r g hI hS hR hl he hf hd hr=>exact⟨r.ev,0,he,.inr (Zag hI),.inr (Zah bk xs es (std3 bk xs es hS hR))⟩
noncomputable def lN(x0:List bC)(x1:bC)(x2:List aM):List aM×Int:=
 ((Classical.choose (xw (x0.map r9) (r9 x1) (x2.map Uv))).map Xd,Classical.choose (Classical.choose_spec (xw (x0.map r9) (r9 x1) (x2.map Uv))))
theorem l9(x0:List bC)(x1:bC)(x2:List aM)(r0:List aM)(r1:Int)(h:(r0,r1)=lN x0 x1 x2):
  ∃es,r0=es.map Xd/\es.length<=300/\Ke 35 (IY (x0.map r9) (r9 x1) (x2.map Uv)) es r1/\Ke 34 (IY (x0.map r9) (r9 x1) (x2.map Uv)) es r1:=by
 have k:=Classical.choose_spec (Classical.choose_spec (xw (x0.map r9) (r9 x1) (x2.map Uv)));have h1:r0=(Classical.choose (xw (x0.map r9) (r9 x1) (x2.map Uv))).map Xd:=congrArg Prod.fst h;have h2:r1=Classical.choose (Classical.choose_spec (xw (x0.map r9) (r9 x1) (x2.map Uv))):=congrArg Prod.snd h;subst h2;exact⟨_,h1,k⟩
section
variable (a0:List bC){A0:Option Addr}{c0:Nat}{p0:dF}(a1:bC){p1:dF}{u1:bW}(a2:List aM){A2:Option Addr}{c2:Nat}{p2:dF}(r0:List aM)(r1:Int)
theorem zo(hR:(r0,r1)=lN a0 a1 a2)(w:World)(h0:T1 w (.sl a0.length (a0.flatMap bC.enc)) p0 (.slice A0 a0.length c0))(h1:TN w a1.enc p1 u1)(h2:T1 w (.sl a2.length (a2.flatMap aM.enc)) p2 (.slice A2 a2.length c2)):
  Calls Tryz.prog 34 #[.slice A0 a0.length c0,.agg u1.toArray,.slice A2 a2.length c2] w fun e w'=>∃(B0:Option Addr) (d0:Nat) (q0:List Nat),e=.returned (.tuple #[.slice B0 r0.length d0,.int .i64 r1])/\Ext w w'/\T1 w' (.sl r0.length (r0.flatMap aM.enc)) q0 (.slice B0 r0.length d0):=by
 obtain⟨es,rfl,_,_,h⟩:=l9 a0 a1 a2 r0 r1 hR;exact(O7 (vs:=[.slice A0 a0.length c0,.agg u1.toArray,.slice A2 a2.length c2]) h (fun _=>p8 (Kz h0) (p8 (OV h1) (p8 (OU h2) KA)))).mono fun _ _ ⟨B,d,q,k1,k2,k3,_⟩=>⟨B,d,q,k1,k2,k3⟩
theorem rP(hR:(r0,r1)=lN a0 a1 a2)(w:World)(h0:T1 w (.sl a0.length (a0.flatMap bC.enc)) p0 (.slice A0 a0.length c0))(h1:TN w a1.enc p1 u1)(h2:T1 w (.sl a2.length (a2.flatMap aM.enc)) p2 (.slice A2 a2.length c2)):
  Calls Tryz.prog 35 #[.slice A0 a0.length c0,.agg u1.toArray,.slice A2 a2.length c2] w fun e w'=>∃(B0:Option Addr) (d0:Nat) (q0:List Nat),e=.returned (.tuple #[.slice B0 r0.length d0,.int .i64 r1])/\Ext w w'/\T1 w' (.sl r0.length (r0.flatMap aM.enc)) q0 (.slice B0 r0.length d0)/\Own w.heap.size w' (q0):=by
 obtain⟨es,rfl,_,h,_⟩:=l9 a0 a1 a2 r0 r1 hR;exact O7 (vs:=[.slice A0 a0.length c0,.agg u1.toArray,.slice A2 a2.length c2]) h (fun _=>p8 (Kz h0) (p8 (OV h1) (p8 (OU h2) KA)))
theorem yH{Q0 Q1 Q2:Prop}(hR:(r0,r1)=lN a0 a1 a2)(_:Q0)(_:Q1)(_:Q2):cN (r0.flatMap aM.enc)<=1099511627776:=by
 obtain⟨es,rfl,h,_⟩:=l9 a0 a1 a2 r0 r1 hR;exact QJ (by omega)
end
end Go.Proofs.YtbdimbjclhmeoaaGreat
