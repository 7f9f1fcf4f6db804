
/- ReduceSteps: both sides; the contracts for the law. Printed by gen_yq.py. -/
import Derived.Test.YtjijpkphkicoeaaGreatYr
set_option linter.unusedSimpArgs false
set_option linter.unusedVariables false
namespace Go.Proofs.YtjijpkphkicoeaaGreat
open Go Go.RowKit Go.Proofs Go.Tr
theorem dM(bk:List (List NAgent))(xs:List NAgent)(sch:List Int)(st:Int):∃(P:List NAgent) (l:List Int) (c:Int),(SmallP P∧l.length≤7)∧RedRes 39 [.rsl uNet bk,.agg [.rsl uAgent xs],.rsl (.int .i64) sch,.int .i64 st] P l c∧RedRes 38 [.rsl uNet bk,.agg [.rsl uAgent xs],.rsl (.int .i64) sch,.int .i64 st] P l c:=by
 rcases askN_cases bk xs sch st with h|⟨c,hc,h⟩
 ·obtain⟨hs,hsp,b,c,t,R⟩:=run_all false h;have g:=R.end_;obtain⟨e1,e2,e3,e4,e5,e6⟩:=end_pack g false;have es:=end_small g false;have lt:=g.tr
  by_cases hc:c=0
  ·subst hc;have hI:=zW bk xs sch st (Ur bk xs sch st hs hsp h R) e4 e5 e6;rw[g.cn]at hI;exact⟨_,_,0,es,.inr hI,.inr (zX bk xs sch st hs hsp h R e1 e2 e3 (by omega) g.ct)⟩
  ·exact⟨[],[],c,⟨⟨by decide,fun a ha=>by cases ha⟩,by simp⟩,.inl ⟨⟨rfl,rfl⟩,qQ bk xs sch st hc (Uq bk xs sch st hc hs hsp h R)⟩,.inl ⟨⟨rfl,rfl⟩,wT bk xs sch st hc hs hsp h R⟩⟩
 ·exact⟨[],[],c,⟨⟨by decide,fun a ha=>by cases ha⟩,by simp⟩,.inl ⟨⟨rfl,rfl⟩,qQ bk xs sch st hc (Uo bk xs sch st hc h)⟩,.inl ⟨⟨rfl,rfl⟩,yC bk xs sch st hc h⟩⟩
noncomputable def lg(x0:List GNet)(x1:GNet)(x2:List Int)(x3:Int):GNet×List Int×Int:=
 (gN (Classical.choose (dM (x0.map nNet) (nNet x1) x2 x3)),Classical.choose (Classical.choose_spec (dM (x0.map nNet) (nNet x1) x2 x3)),Classical.choose (Classical.choose_spec (Classical.choose_spec (dM (x0.map nNet) (nNet x1) x2 x3))))
theorem kQ(x0:List GNet)(x1:GNet)(x2:List Int)(x3:Int)(r0:GNet)(r1:List Int)(r2:Int)(h:(r0,r1,r2)=lg x0 x1 x2 x3):
  ∃P,r0=gN P∧(SmallP P∧r1.length≤7)∧RedRes 39 [.rsl uNet (x0.map nNet),.agg [.rsl uAgent (nNet x1)],.rsl (.int .i64) x2,.int .i64 x3] P r1 r2∧RedRes 38 [.rsl uNet (x0.map nNet),.agg [.rsl uAgent (nNet x1)],.rsl (.int .i64) x2,.int .i64 x3] P r1 r2:=by
 have k:=Classical.choose_spec (Classical.choose_spec (Classical.choose_spec (dM (x0.map nNet) (nNet x1) x2 x3)));have h1:r0=gN (Classical.choose (dM (x0.map nNet) (nNet x1) x2 x3)):=congrArg Prod.fst h;have h2:r1=Classical.choose (Classical.choose_spec (dM (x0.map nNet) (nNet x1) x2 x3)):=congrArg (fun p=>p.2.1) h;have h3:r2=Classical.choose (Classical.choose_spec (Classical.choose_spec (dM (x0.map nNet) (nNet x1) x2 x3))):=congrArg (fun p=>p.2.2) h;subst h2 h3;exact⟨_,h1,k⟩
section
variable (a0:List GNet){A0:Option Addr}{c0:Nat}{p0:List Nat}(a1:GNet){p1:List Nat}{u1:List Value}(a2:List Int){A2:Option Addr}{c2:Nat}{p2:List Nat}(a3:Int)(r0:GNet)(r1:List Int)(r2:Int)
theorem xL(hR:(r0,r1,r2)=lg a0 a1 a2 a3)(w:World)(h0:T1 w (.sl a0.length (a0.flatMap GNet.enc)) p0 (.slice A0 a0.length c0))(h1:TN w a1.enc p1 u1)(h2:T1 w (.sl a2.length (a2.flatMap intE)) p2 (.slice A2 a2.length c2)):
  Calls Tryz.prog 38 #[.slice A0 a0.length c0,.agg u1.toArray,.slice A2 a2.length c2,.int .i64 a3] w fun e w'=>∃(v0:List Value) (q0:List Nat) (B1:Option Addr) (d1:Nat) (q1:List Nat),e=.returned (.tuple #[.agg v0.toArray,.slice B1 r1.length d1,.int .i64 r2])∧Ext w w'∧TN w' r0.enc q0 v0∧T1 w' (.sl r1.length (r1.flatMap intE)) q1 (.slice B1 r1.length d1)∧Own w.heap.size w' (q0++q1):=by
 obtain⟨P,rfl,_,_,h⟩:=kQ a0 a1 a2 a3 r0 r1 r2 hR;exact red_any (vs:=[.slice A0 a0.length c0,.agg u1.toArray,.slice A2 a2.length c2,.int .i64 a3]) h (fun _=>dens_cons (den_nets h0) (dens_cons (den_net h1) (dens_cons (den_ints h2) (dens_cons (den_i _) dens_nil))))
theorem pY(hR:(r0,r1,r2)=lg a0 a1 a2 a3)(w:World)(h0:T1 w (.sl a0.length (a0.flatMap GNet.enc)) p0 (.slice A0 a0.length c0))(h1:TN w a1.enc p1 u1)(h2:T1 w (.sl a2.length (a2.flatMap intE)) p2 (.slice A2 a2.length c2)):
  Calls Tryz.prog 39 #[.slice A0 a0.length c0,.agg u1.toArray,.slice A2 a2.length c2,.int .i64 a3] w fun e w'=>∃(v0:List Value) (q0:List Nat) (B1:Option Addr) (d1:Nat) (q1:List Nat),e=.returned (.tuple #[.agg v0.toArray,.slice B1 r1.length d1,.int .i64 r2])∧Ext w w'∧TN w' r0.enc q0 v0∧T1 w' (.sl r1.length (r1.flatMap intE)) q1 (.slice B1 r1.length d1)∧Own w.heap.size w' (q0++q1):=by
 obtain⟨P,rfl,_,h,_⟩:=kQ a0 a1 a2 a3 r0 r1 r2 hR;exact red_any (vs:=[.slice A0 a0.length c0,.agg u1.toArray,.slice A2 a2.length c2,.int .i64 a3]) h (fun _=>dens_cons (den_nets h0) (dens_cons (den_net h1) (dens_cons (den_ints h2) (dens_cons (den_i _) dens_nil))))
theorem wF{Q0 Q1 Q2:Prop}(hR:(r0,r1,r2)=lg a0 a1 a2 a3)(_:Q0)(_:Q1)(_:Q2):r0.cnt≤1099511627776∧cN (r1.flatMap intE)≤1099511627776:=by
 obtain⟨P,rfl,⟨h1,h2⟩,_⟩:=kQ a0 a1 a2 a3 r0 r1 r2 hR;refine⟨small_cnt h1,?_⟩;rw[cN_ints];omega
end
end Go.Proofs.YtjijpkphkicoeaaGreat
