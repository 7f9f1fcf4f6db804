
/- LazyHead: both sides; the contracts for the law. Printed by gen_hn.py. -/
import Derived.Test.YtjijpkphkicoeaaGreatHm
import Derived.Test.YtjijpkphkicoeaaGreatYr
set_option linter.unusedSimpArgs false
set_option linter.unusedVariables false
namespace Go.Proofs.YtjijpkphkicoeaaGreat
open Go Go.RowKit Go.Proofs Go.Tr
theorem Zaw(bk:List (List aj))(xs:List aj)(st:Int):∃(P:List aj) (l:List Int) (c:Int),(Wz P∧l.length≤7)∧Zao 41 [.rsl aR bk,.agg [.rsl aD xs],.int .i64 st] P l c∧Zao 40 [.rsl aR bk,.agg [.rsl aD xs],.int .i64 st] P l c:=by
 rcases La bk xs [] st with h|⟨c,hc,h⟩
 ·obtain⟨hs,c,t,R⟩:=Xm bk xs st false h;have g:=R.end_;have lt:=g.tr;obtain⟨e1,e2,e3,e4,e5,e6⟩:=QH g false;have es:=Zax g false
  by_cases hc:c=0
  ·subst hc;have hI:=Za0 bk xs st (Xi false 79 bk xs st hs h Za5 R rfl) e4 e5 e6;rw[g.cn]at hI;exact⟨_,_,0,es,.inr hI,.inr (Za1 bk xs st (Za7 bk xs st hs h R rfl) (by omega) g.ct)⟩
  ·exact⟨[],[],c,⟨⟨by decide,fun a ha=>by cases ha⟩,by simp⟩,.inl ⟨⟨rfl,rfl⟩,ZaT bk xs st hc (UF false 79 bk xs st hs h Za5 R hc)⟩,.inl ⟨⟨rfl,rfl⟩,ZaU bk xs st hc (Za4 bk xs st hs h R hc)⟩⟩
 ·exact⟨[],[],c,⟨⟨by decide,fun a ha=>by cases ha⟩,by simp⟩,.inl ⟨⟨rfl,rfl⟩,ZaT bk xs st hc (ZaN 79 bk xs st h hc)⟩,.inl ⟨⟨rfl,rfl⟩,ZaU bk xs st hc (ZaK bk xs st hc h)⟩⟩
noncomputable def ZaR(x0:List aQ)(x1:aQ)(x2:Int):aQ×List Int×Int:=
 (gN (Classical.choose (Zaw (x0.map rV) (rV x1) x2)),Classical.choose (Classical.choose_spec (Zaw (x0.map rV) (rV x1) x2)),Classical.choose (Classical.choose_spec (Classical.choose_spec (Zaw (x0.map rV) (rV x1) x2))))
theorem ZaO(x0:List aQ)(x1:aQ)(x2:Int)(r0:aQ)(r1:List Int)(r2:Int)(h:(r0,r1,r2)=ZaR x0 x1 x2):
  ∃P,r0=gN P∧(Wz P∧r1.length≤7)∧Zao 41 [.rsl aR (x0.map rV),.agg [.rsl aD (rV x1)],.int .i64 x2] P r1 r2∧Zao 40 [.rsl aR (x0.map rV),.agg [.rsl aD (rV x1)],.int .i64 x2] P r1 r2:=by
 have k:=Classical.choose_spec (Classical.choose_spec (Classical.choose_spec (Zaw (x0.map rV) (rV x1) x2)));have h1:r0=gN (Classical.choose (Zaw (x0.map rV) (rV x1) x2)):=congrArg Prod.fst h;have h2:r1=Classical.choose (Classical.choose_spec (Zaw (x0.map rV) (rV x1) x2)):=congrArg (fun p=>p.2.1) h;have h3:r2=Classical.choose (Classical.choose_spec (Classical.choose_spec (Zaw (x0.map rV) (rV x1) x2))):=congrArg (fun p=>p.2.2) h;subst h2 h3;exact⟨_,h1,k⟩
section
variable (a0:List aQ){A0:Option Addr}{c0:Nat}{p0:List Nat}(a1:aQ){p1:List Nat}{u1:List Value}(a2:Int)(r0:aQ)(r1:List Int)(r2:Int)
theorem ZaY(hR:(r0,r1,r2)=ZaR a0 a1 a2)(w:World)(h0:T1 w (.sl a0.length (a0.flatMap aQ.enc)) p0 (.slice A0 a0.length c0))(h1:TN w a1.enc p1 u1):
  Calls Tryz.prog 40 #[.slice A0 a0.length c0,.agg u1.toArray,.int .i64 a2] w fun e w'=>∃(v0:List Value) (q0:List Nat) (B1:Option Addr) (d1:Nat) (q1:List Nat),e=.returned (.tuple #[.agg v0.toArray,.slice B1 r1.length d1,.int .i64 r2])∧Ext w w'∧TN w' r0.enc q0 v0∧T1 w' (.sl r1.length (r1.flatMap bM)) q1 (.slice B1 r1.length d1)∧Own w.heap.size w' (q0++q1):=by
 obtain⟨P,rfl,_,_,h⟩:=ZaO a0 a1 a2 r0 r1 r2 hR;exact Zav (vs:=[.slice A0 a0.length c0,.agg u1.toArray,.int .i64 a2]) h (fun _=>pQ (Jz h0) (pQ (M8 h1) (pQ (M7 _) JA)))
theorem ZaS(hR:(r0,r1,r2)=ZaR a0 a1 a2)(w:World)(h0:T1 w (.sl a0.length (a0.flatMap aQ.enc)) p0 (.slice A0 a0.length c0))(h1:TN w a1.enc p1 u1):
  Calls Tryz.prog 41 #[.slice A0 a0.length c0,.agg u1.toArray,.int .i64 a2] w fun e w'=>∃(v0:List Value) (q0:List Nat) (B1:Option Addr) (d1:Nat) (q1:List Nat),e=.returned (.tuple #[.agg v0.toArray,.slice B1 r1.length d1,.int .i64 r2])∧Ext w w'∧TN w' r0.enc q0 v0∧T1 w' (.sl r1.length (r1.flatMap bM)) q1 (.slice B1 r1.length d1)∧Own w.heap.size w' (q0++q1):=by
 obtain⟨P,rfl,_,h,_⟩:=ZaO a0 a1 a2 r0 r1 r2 hR;exact Zav (vs:=[.slice A0 a0.length c0,.agg u1.toArray,.int .i64 a2]) h (fun _=>pQ (Jz h0) (pQ (M8 h1) (pQ (M7 _) JA)))
theorem ZaX{Q0 Q1:Prop}(hR:(r0,r1,r2)=ZaR a0 a1 a2)(_:Q0)(_:Q1):r0.cnt≤1099511627776∧cN (r1.flatMap bM)≤1099511627776:=by
 obtain⟨P,rfl,⟨h1,h2⟩,_⟩:=ZaO a0 a1 a2 r0 r1 r2 hR;refine⟨Zay h1,?_⟩;rw[ZG];omega
end
end Go.Proofs.YtjijpkphkicoeaaGreat
