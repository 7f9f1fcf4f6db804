
/- LazyTrace: both sides; the contracts for the law. Printed by gen_hn.py. -/
import Derived.Test.YtjijpkphkicoeaaGreatHm
import Derived.Test.YtjijpkphkicoeaaGreatYq
set_option linter.unusedSimpArgs false
set_option linter.unusedVariables false
namespace Go.Proofs.YtjijpkphkicoeaaGreat
open Go Go.RowKit Go.Proofs Go.Tr
theorem Za3(bk:List (List aj))(xs:List aj)(st:Int):∃(l:List Int) (c:Int),l.length≤4000∧Zbe 32 [.rsl aR bk,.agg [.rsl aD xs],.int .i64 st] l c∧Zbe 31 [.rsl aR bk,.agg [.rsl aD xs],.int .i64 st] l c:=by
 rcases La bk xs [] st with h|⟨c,hc,h⟩
 ·obtain⟨hs,c,t,R⟩:=Xm bk xs st true h;have g:=R.end_;have lt:=g.tr
  by_cases hc:c=0
  ·subst hc;exact⟨t.tr,0,by omega,.inr (Zbk bk xs st (Xi true 68 bk xs st hs h VG R rfl)),.inr (Zbl bk xs st (Xh bk xs st hs h R rfl))⟩
  ·exact⟨[],c,by simp,.inl ⟨rfl,Zbc bk xs st hc (UF true 68 bk xs st hs h VG R hc)⟩,.inl ⟨rfl,Zbd bk xs st hc (UC bk xs st hs h R hc)⟩⟩
 ·exact⟨[],c,by simp,.inl ⟨rfl,Zbc bk xs st hc (ZaN 68 bk xs st h hc)⟩,.inl ⟨rfl,Zbd bk xs st hc (ZaK bk xs st hc h)⟩⟩
noncomputable def Zba(x0:List aQ)(x1:aQ)(x2:Int):List Int×Int:=
 (Classical.choose (Za3 (x0.map rV) (rV x1) x2),Classical.choose (Classical.choose_spec (Za3 (x0.map rV) (rV x1) x2)))
theorem Za8(x0:List aQ)(x1:aQ)(x2:Int)(r0:List Int)(r1:Int)(h:(r0,r1)=Zba x0 x1 x2):
  r0.length≤4000∧Zbe 32 [.rsl aR (x0.map rV),.agg [.rsl aD (rV x1)],.int .i64 x2] r0 r1∧Zbe 31 [.rsl aR (x0.map rV),.agg [.rsl aD (rV x1)],.int .i64 x2] r0 r1:=by
 have k:=Classical.choose_spec (Classical.choose_spec (Za3 (x0.map rV) (rV x1) x2));have h1:r0=Classical.choose (Za3 (x0.map rV) (rV x1) x2):=congrArg Prod.fst h;have h2:r1=Classical.choose (Classical.choose_spec (Za3 (x0.map rV) (rV x1) x2)):=congrArg Prod.snd h;subst h1 h2;exact k
section
variable (a0:List aQ){A0:Option Addr}{c0:Nat}{p0:List Nat}(a1:aQ){p1:List Nat}{u1:List Value}(a2:Int)(r0:List Int)(r1:Int)
theorem Zbi(hR:(r0,r1)=Zba a0 a1 a2)(w:World)(h0:T1 w (.sl a0.length (a0.flatMap aQ.enc)) p0 (.slice A0 a0.length c0))(h1:TN w a1.enc p1 u1):
  Calls Tryz.prog 31 #[.slice A0 a0.length c0,.agg u1.toArray,.int .i64 a2] w fun e w'=>∃(B0:Option Addr) (d0:Nat) (q0:List Nat),e=.returned (.tuple #[.slice B0 r0.length d0,.int .i64 r1])∧Ext w w'∧T1 w' (.sl r0.length (r0.flatMap bM)) q0 (.slice B0 r0.length d0):=
 (Zbm (vs:=[.slice A0 a0.length c0,.agg u1.toArray,.int .i64 a2]) (Za8 a0 a1 a2 r0 r1 hR).2.2 (fun _=>pQ (Jz h0) (pQ (M8 h1) (pQ (M7 _) JA)))).mono fun _ _ ⟨B,d,q,k1,k2,k3,_⟩=>⟨B,d,q,k1,k2,k3⟩
theorem Zbb(hR:(r0,r1)=Zba a0 a1 a2)(w:World)(h0:T1 w (.sl a0.length (a0.flatMap aQ.enc)) p0 (.slice A0 a0.length c0))(h1:TN w a1.enc p1 u1):
  Calls Tryz.prog 32 #[.slice A0 a0.length c0,.agg u1.toArray,.int .i64 a2] w fun e w'=>∃(B0:Option Addr) (d0:Nat) (q0:List Nat),e=.returned (.tuple #[.slice B0 r0.length d0,.int .i64 r1])∧Ext w w'∧T1 w' (.sl r0.length (r0.flatMap bM)) q0 (.slice B0 r0.length d0)∧Own w.heap.size w' (q0):=
 Zbm (vs:=[.slice A0 a0.length c0,.agg u1.toArray,.int .i64 a2]) (Za8 a0 a1 a2 r0 r1 hR).2.1 (fun _=>pQ (Jz h0) (pQ (M8 h1) (pQ (M7 _) JA)))
theorem Zbh{Q0 Q1:Prop}(hR:(r0,r1)=Zba a0 a1 a2)(_:Q0)(_:Q1):cN (r0.flatMap bM)≤1099511627776:=by
 rw[ZG];have:=(Za8 a0 a1 a2 r0 r1 hR).1;omega
end
end Go.Proofs.YtjijpkphkicoeaaGreat
