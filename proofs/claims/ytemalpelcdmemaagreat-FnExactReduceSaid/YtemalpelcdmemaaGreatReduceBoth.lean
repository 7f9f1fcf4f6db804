
/- Reduce: both sides; the contracts for the law. Printed by gen_yq.py. -/
import Derived.Test.YtemalpelcdmemaaGreatYr
set_option linter.unusedSimpArgs false
set_option linter.unusedVariables false
namespace Go.Proofs.YtemalpelcdmemaaGreat
open Go Go.RowKit Go.Proofs Go.Tr
theorem kZ(bk:List (List NAgent))(xs:List NAgent)(sch:List Int)(st:Int):∃(P:List NAgent) (l:List Int) (c:Int),(SmallP P∧l.length≤7)∧RedRes 50 [.rsl uNet bk,.agg [.rsl uAgent xs],.rsl (.int .i64) sch,.int .i64 st] P l c∧RedRes 49 [.rsl uNet bk,.agg [.rsl uAgent xs],.rsl (.int .i64) sch,.int .i64 st] P l c:=by
 rcases askN_cases bk xs sch st with h|⟨c,hc,h⟩
 ·obtain⟨hs,hsp,b,c,t,R⟩:=run_all false h;have g:=R.end_;obtain⟨e1,e2,e3,e4,e5,e6⟩:=end_pack g false;have es:=end_small g false;have lt:=g.tr
  by_cases hc:c=0
  ·subst hc;cases b with
   |true=>
    have hI:=Qt bk xs sch st (ZX bk xs sch st hs hsp h R) e4 e5 e6;rw[g.cn]at hI;exact⟨_,_,0,es,.inr hI,.inr (Qu bk xs sch st h (Y5 bk xs sch st hs hsp R e1 e2 e3) (by omega) g.ct)⟩
   |false=>exact⟨[],[],12,⟨⟨by decide,fun a ha=>by cases ha⟩,by simp⟩,.inl ⟨⟨rfl,rfl⟩,y8 bk xs sch st (by decide) (ZW bk xs sch st hs hsp h R)⟩,.inl ⟨⟨rfl,rfl⟩,CG bk xs sch st (by decide) h (XF bk xs sch st hs hsp R e1 e2 e3)⟩⟩
  ·exact⟨[],[],c,⟨⟨by decide,fun a ha=>by cases ha⟩,by simp⟩,.inl ⟨⟨rfl,rfl⟩,y8 bk xs sch st hc (ZV bk xs sch st hc hs hsp h R)⟩,.inl ⟨⟨rfl,rfl⟩,CG bk xs sch st hc h (XE bk xs sch st hc hs hsp R e1 e2 e3)⟩⟩
 ·exact⟨[],[],c,⟨⟨by decide,fun a ha=>by cases ha⟩,by simp⟩,.inl ⟨⟨rfl,rfl⟩,y8 bk xs sch st hc (ZU bk xs sch st hc h)⟩,.inl ⟨⟨rfl,rfl⟩,Mw bk xs sch st hc h⟩⟩
noncomputable def reduce(x0:List GNet)(x1:GNet)(x2:List Int)(x3:Int):GNet×List Int×Int:=
 (gN (Classical.choose (kZ (x0.map nNet) (nNet x1) x2 x3)),Classical.choose (Classical.choose_spec (kZ (x0.map nNet) (nNet x1) x2 x3)),Classical.choose (Classical.choose_spec (Classical.choose_spec (kZ (x0.map nNet) (nNet x1) x2 x3))))
theorem xJ(x0:List GNet)(x1:GNet)(x2:List Int)(x3:Int)(r0:GNet)(r1:List Int)(r2:Int)(h:(r0,r1,r2)=reduce x0 x1 x2 x3):
  ∃P,r0=gN P∧(SmallP P∧r1.length≤7)∧RedRes 50 [.rsl uNet (x0.map nNet),.agg [.rsl uAgent (nNet x1)],.rsl (.int .i64) x2,.int .i64 x3] P r1 r2∧RedRes 49 [.rsl uNet (x0.map nNet),.agg [.rsl uAgent (nNet x1)],.rsl (.int .i64) x2,.int .i64 x3] P r1 r2:=by
 have k:=Classical.choose_spec (Classical.choose_spec (Classical.choose_spec (kZ (x0.map nNet) (nNet x1) x2 x3)));have h1:r0=gN (Classical.choose (kZ (x0.map nNet) (nNet x1) x2 x3)):=congrArg Prod.fst h;have h2:r1=Classical.choose (Classical.choose_spec (kZ (x0.map nNet) (nNet x1) x2 x3)):=congrArg (fun p=>p.2.1) h;have h3:r2=Classical.choose (Classical.choose_spec (Classical.choose_spec (kZ (x0.map nNet) (nNet x1) x2 x3))):=congrArg (fun p=>p.2.2) h;subst h2 h3;exact⟨_,h1,k⟩
section
variable (a0:List GNet){A0:Option Addr}{c0:Nat}{p0:List Nat}(a1:GNet){p1:List Nat}{u1:List Value}(a2:List Int){A2:Option Addr}{c2:Nat}{p2:List Nat}(a3:Int)(r0:GNet)(r1:List Int)(r2:Int)
theorem LU(hR:(r0,r1,r2)=reduce a0 a1 a2 a3)(w:World)(h0:T1 w (.sl a0.length (a0.flatMap GNet.enc)) p0 (.slice A0 a0.length c0))(h1:TN w a1.enc p1 u1)(h2:T1 w (.sl a2.length (a2.flatMap intE)) p2 (.slice A2 a2.length c2)):
  Calls Tryz.prog 49 #[.slice A0 a0.length c0,.agg u1.toArray,.slice A2 a2.length c2,.int .i64 a3] w fun e w'=>∃(v0:List Value) (q0:List Nat) (B1:Option Addr) (d1:Nat) (q1:List Nat),e=.returned (.tuple #[.agg v0.toArray,.slice B1 r1.length d1,.int .i64 r2])∧Ext w w'∧TN w' r0.enc q0 v0∧T1 w' (.sl r1.length (r1.flatMap intE)) q1 (.slice B1 r1.length d1)∧Own w.heap.size w' (q0++q1):=by
 obtain⟨P,rfl,_,_,h⟩:=xJ a0 a1 a2 a3 r0 r1 r2 hR;exact red_any (vs:=[.slice A0 a0.length c0,.agg u1.toArray,.slice A2 a2.length c2,.int .i64 a3]) h (fun _=>dens_cons (den_nets h0) (dens_cons (den_net h1) (dens_cons (den_ints h2) (dens_cons (den_i _) dens_nil))))
theorem CW(hR:(r0,r1,r2)=reduce a0 a1 a2 a3)(w:World)(h0:T1 w (.sl a0.length (a0.flatMap GNet.enc)) p0 (.slice A0 a0.length c0))(h1:TN w a1.enc p1 u1)(h2:T1 w (.sl a2.length (a2.flatMap intE)) p2 (.slice A2 a2.length c2)):
  Calls Tryz.prog 50 #[.slice A0 a0.length c0,.agg u1.toArray,.slice A2 a2.length c2,.int .i64 a3] w fun e w'=>∃(v0:List Value) (q0:List Nat) (B1:Option Addr) (d1:Nat) (q1:List Nat),e=.returned (.tuple #[.agg v0.toArray,.slice B1 r1.length d1,.int .i64 r2])∧Ext w w'∧TN w' r0.enc q0 v0∧T1 w' (.sl r1.length (r1.flatMap intE)) q1 (.slice B1 r1.length d1)∧Own w.heap.size w' (q0++q1):=by
 obtain⟨P,rfl,_,h,_⟩:=xJ a0 a1 a2 a3 r0 r1 r2 hR;exact red_any (vs:=[.slice A0 a0.length c0,.agg u1.toArray,.slice A2 a2.length c2,.int .i64 a3]) h (fun _=>dens_cons (den_nets h0) (dens_cons (den_net h1) (dens_cons (den_ints h2) (dens_cons (den_i _) dens_nil))))
theorem JY{Q0 Q1 Q2:Prop}(hR:(r0,r1,r2)=reduce a0 a1 a2 a3)(_:Q0)(_:Q1)(_:Q2):r0.cnt≤1099511627776∧cN (r1.flatMap intE)≤1099511627776:=by
 obtain⟨P,rfl,⟨h1,h2⟩,_⟩:=xJ a0 a1 a2 a3 r0 r1 r2 hR;refine⟨small_cnt h1,?_⟩;rw[cN_ints];omega
end
end Go.Proofs.YtemalpelcdmemaaGreat
