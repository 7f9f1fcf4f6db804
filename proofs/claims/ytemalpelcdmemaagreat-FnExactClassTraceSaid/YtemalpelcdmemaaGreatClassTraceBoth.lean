
/- ClassTrace: both sides; the contracts for the law. Printed by gen_yq.py. -/
import Derived.Test.YtemalpelcdmemaaGreatYo
import Derived.Test.YtemalpelcdmemaaGreatYp
import Derived.Test.YtemalpelcdmemaaGreatYq
set_option linter.unusedSimpArgs false
set_option linter.unusedVariables false
namespace Go.Proofs.YtemalpelcdmemaaGreat
open Go Go.RowKit Go.Proofs Go.Tr
theorem ko(bk:List (List NAgent))(xs:List NAgent)(sch:List Int)(st:Int):∃(l:List Int) (c:Int),l.length≤4000∧Al 43 [.rsl uNet bk,.agg [.rsl uAgent xs],.rsl (.int .i64) sch,.int .i64 st] l c∧Al 42 [.rsl uNet bk,.agg [.rsl uAgent xs],.rsl (.int .i64) sch,.int .i64 st] l c:=by
 rcases wm bk xs sch st with h|⟨c,hc,h⟩
 ·obtain⟨hs,hsp,b,c,t,R⟩:=EM false h
  by_cases hc:c=0
  ·subst hc;have g:=R.end_;have lt:=g.tr;exact⟨t.tr,0,by omega,.inr (Ia bk xs sch st (Yn bk xs sch st hs hsp h R)),.inr (Ib bk xs sch st hs hsp h R)⟩
  ·exact⟨[],c,by simp,.inl ⟨rfl,xQ bk xs sch st hc (Yk bk xs sch st hc hs hsp h R)⟩,.inl ⟨rfl,DU bk xs sch st hc hs hsp h R⟩⟩
 ·exact⟨[],c,by simp,.inl ⟨rfl,xQ bk xs sch st hc (Yi bk xs sch st hc h)⟩,.inl ⟨rfl,EW bk xs sch st hc h⟩⟩
noncomputable def rU(x0:List aH)(x1:aH)(x2:List Int)(x3:Int):List Int×Int:=
 (Classical.choose (ko (x0.map eT) (eT x1) x2 x3),Classical.choose (Classical.choose_spec (ko (x0.map eT) (eT x1) x2 x3)))
theorem qh(x0:List aH)(x1:aH)(x2:List Int)(x3:Int)(r0:List Int)(r1:Int)(h:(r0,r1)=rU x0 x1 x2 x3):
  r0.length≤4000∧Al 43 [.rsl uNet (x0.map eT),.agg [.rsl uAgent (eT x1)],.rsl (.int .i64) x2,.int .i64 x3] r0 r1∧Al 42 [.rsl uNet (x0.map eT),.agg [.rsl uAgent (eT x1)],.rsl (.int .i64) x2,.int .i64 x3] r0 r1:=by
 have k:=Classical.choose_spec (Classical.choose_spec (ko (x0.map eT) (eT x1) x2 x3));have h1:r0=Classical.choose (ko (x0.map eT) (eT x1) x2 x3):=congrArg Prod.fst h;have h2:r1=Classical.choose (Classical.choose_spec (ko (x0.map eT) (eT x1) x2 x3)):=congrArg Prod.snd h;subst h1 h2;exact k
section
variable (a0:List aH){A0:Option Addr}{c0:Nat}{p0:List Nat}(a1:aH){p1:List Nat}{u1:List Value}(a2:List Int){A2:Option Addr}{c2:Nat}{p2:List Nat}(a3:Int)(r0:List Int)(r1:Int)
theorem DW(hR:(r0,r1)=rU a0 a1 a2 a3)(w:World)(h0:T1 w (.sl a0.length (a0.flatMap aH.enc)) p0 (.slice A0 a0.length c0))(h1:TN w a1.enc p1 u1)(h2:T1 w (.sl a2.length (a2.flatMap bg)) p2 (.slice A2 a2.length c2)):
  Calls Tryz.prog 42 #[.slice A0 a0.length c0,.agg u1.toArray,.slice A2 a2.length c2,.int .i64 a3] w fun e w'=>∃(B0:Option Addr) (d0:Nat) (q0:List Nat),e=.returned (.tuple #[.slice B0 r0.length d0,.int .i64 r1])∧Ext w w'∧T1 w' (.sl r0.length (r0.flatMap bg)) q0 (.slice B0 r0.length d0):=
 (Me (vs:=[.slice A0 a0.length c0,.agg u1.toArray,.slice A2 a2.length c2,.int .i64 a3]) (qh a0 a1 a2 a3 r0 r1 hR).2.2 (fun _=>bS (pR h0) (bS (tO h1) (bS (pQ h2) (bS (zw _) pU))))).mono fun _ _ ⟨B,d,q,k1,k2,k3,_⟩=>⟨B,d,q,k1,k2,k3⟩
theorem xw(hR:(r0,r1)=rU a0 a1 a2 a3)(w:World)(h0:T1 w (.sl a0.length (a0.flatMap aH.enc)) p0 (.slice A0 a0.length c0))(h1:TN w a1.enc p1 u1)(h2:T1 w (.sl a2.length (a2.flatMap bg)) p2 (.slice A2 a2.length c2)):
  Calls Tryz.prog 43 #[.slice A0 a0.length c0,.agg u1.toArray,.slice A2 a2.length c2,.int .i64 a3] w fun e w'=>∃(B0:Option Addr) (d0:Nat) (q0:List Nat),e=.returned (.tuple #[.slice B0 r0.length d0,.int .i64 r1])∧Ext w w'∧T1 w' (.sl r0.length (r0.flatMap bg)) q0 (.slice B0 r0.length d0)∧Own w.heap.size w' (q0):=
 Me (vs:=[.slice A0 a0.length c0,.agg u1.toArray,.slice A2 a2.length c2,.int .i64 a3]) (qh a0 a1 a2 a3 r0 r1 hR).2.1 (fun _=>bS (pR h0) (bS (tO h1) (bS (pQ h2) (bS (zw _) pU))))
theorem Cg{Q0 Q1 Q2:Prop}(hR:(r0,r1)=rU a0 a1 a2 a3)(_:Q0)(_:Q1)(_:Q2):cN (r0.flatMap bg)≤1099511627776:=by
 rw[yL];have:=(qh a0 a1 a2 a3 r0 r1 hR).1;omega
end
end Go.Proofs.YtemalpelcdmemaaGreat
