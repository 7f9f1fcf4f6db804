
/- AgentCurve: both sides; the contracts for the law. Printed by gen_ys.py. -/
import Derived.Test.YtjijpkphkicoeaaGreatYt
set_option linter.unusedSimpArgs false
set_option linter.unusedVariables false
namespace Go.Proofs.YtjijpkphkicoeaaGreat
open Go Go.RowKit Go.Proofs Go.Tr
theorem gV(bk:List (List NAgent))(xs:List NAgent)(sch:List Int)(st:Int):∃(l:List Int) (c:Int),l.length≤4001∧IntsRes 28 [.rsl uNet bk,.agg [.rsl uAgent xs],.rsl (.int .i64) sch,.int .i64 st] l c∧IntsRes 26 [.rsl uNet bk,.agg [.rsl uAgent xs],.rsl (.int .i64) sch,.int .i64 st] l c:=by
 rcases askN_cases bk xs sch st with h|⟨c,hc,h⟩
 ·obtain⟨hs,hsp,b,c,t,R⟩:=run_all true h;have g:=R.end_;have lt:=g.tr;have lc:=g.cu;have le:=g.ex;have ld:=g.dl
  have nb:bk.length≤1000:=by
   obtain⟨hv,_⟩:=ask_t bk xs sch st h;unfold vldB at hv;rw[Bool.and_eq_true]at hv;exact(bookB_ok hv.1).1.bl
  by_cases hc:c=0
  ·subst hc;cases b with
   |true=>exact⟨t.cu,0,(by omega),.inr (AZ bk xs sch st (red4d bk xs sch st hs hsp h R)),.inr (A8 bk xs sch st (go26Ok bk xs sch st hs hsp h R))⟩
   |false=>exact⟨[],12,by simp,.inl ⟨rfl,mW bk xs sch st (by decide) (red3d bk xs sch st hs hsp h R)⟩,.inl ⟨rfl,mX bk xs sch st (by decide) (go26Bud bk xs sch st hs hsp h R)⟩⟩
  ·exact⟨[],c,by simp,.inl ⟨rfl,mW bk xs sch st hc (red2d bk xs sch st hc hs hsp h R)⟩,.inl ⟨rfl,mX bk xs sch st hc (go26Bad bk xs sch st hc hs hsp h R)⟩⟩
 ·exact⟨[],c,by simp,.inl ⟨rfl,mW bk xs sch st hc (red1d bk xs sch st hc h)⟩,.inl ⟨rfl,mX bk xs sch st hc (go26Ask bk xs sch st hc h)⟩⟩
noncomputable def mV(x0:List GNet)(x1:GNet)(x2:List Int)(x3:Int):List Int×Int:=
 (Classical.choose (gV (x0.map nNet) (nNet x1) x2 x3),Classical.choose (Classical.choose_spec (gV (x0.map nNet) (nNet x1) x2 x3)))
theorem lg(x0:List GNet)(x1:GNet)(x2:List Int)(x3:Int)(r0:List Int)(r1:Int)(h:(r0,r1)=mV x0 x1 x2 x3):
  r0.length≤4001∧IntsRes 28 [.rsl uNet (x0.map nNet),.agg [.rsl uAgent (nNet x1)],.rsl (.int .i64) x2,.int .i64 x3] r0 r1∧IntsRes 26 [.rsl uNet (x0.map nNet),.agg [.rsl uAgent (nNet x1)],.rsl (.int .i64) x2,.int .i64 x3] r0 r1:=by
 have k:=Classical.choose_spec (Classical.choose_spec (gV (x0.map nNet) (nNet x1) x2 x3));have h1:r0=Classical.choose (gV (x0.map nNet) (nNet x1) x2 x3):=congrArg Prod.fst h;have h2:r1=Classical.choose (Classical.choose_spec (gV (x0.map nNet) (nNet x1) x2 x3)):=congrArg Prod.snd h;subst h1 h2;exact k
section
variable (a0:List GNet){A0:Option Addr}{c0:Nat}{p0:List Nat}(a1:GNet){p1:List Nat}{u1:List Value}(a2:List Int){A2:Option Addr}{c2:Nat}{p2:List Nat}(a3:Int)(r0:List Int)(r1:Int)
theorem x9(hR:(r0,r1)=mV a0 a1 a2 a3)(w:World)(h0:T1 w (.sl a0.length (a0.flatMap GNet.enc)) p0 (.slice A0 a0.length c0))(h1:TN w a1.enc p1 u1)(h2:T1 w (.sl a2.length (a2.flatMap intE)) p2 (.slice A2 a2.length c2)):
  Calls Tryz.prog 26 #[.slice A0 a0.length c0,.agg u1.toArray,.slice A2 a2.length c2,.int .i64 a3] w fun e w'=>∃(B0:Option Addr) (d0:Nat) (q0:List Nat),e=.returned (.tuple #[.slice B0 r0.length d0,.int .i64 r1])∧Ext w w'∧T1 w' (.sl r0.length (r0.flatMap intE)) q0 (.slice B0 r0.length d0):=
 (ints_any (vs:=[.slice A0 a0.length c0,.agg u1.toArray,.slice A2 a2.length c2,.int .i64 a3]) (lg a0 a1 a2 a3 r0 r1 hR).2.2 (fun _=>dens_cons (den_nets h0) (dens_cons (den_net h1) (dens_cons (den_ints h2) (dens_cons (den_i _) dens_nil))))).mono fun _ _ ⟨B,d,q,k1,k2,k3,_⟩=>⟨B,d,q,k1,k2,k3⟩
theorem qK(hR:(r0,r1)=mV a0 a1 a2 a3)(w:World)(h0:T1 w (.sl a0.length (a0.flatMap GNet.enc)) p0 (.slice A0 a0.length c0))(h1:TN w a1.enc p1 u1)(h2:T1 w (.sl a2.length (a2.flatMap intE)) p2 (.slice A2 a2.length c2)):
  Calls Tryz.prog 28 #[.slice A0 a0.length c0,.agg u1.toArray,.slice A2 a2.length c2,.int .i64 a3] w fun e w'=>∃(B0:Option Addr) (d0:Nat) (q0:List Nat),e=.returned (.tuple #[.slice B0 r0.length d0,.int .i64 r1])∧Ext w w'∧T1 w' (.sl r0.length (r0.flatMap intE)) q0 (.slice B0 r0.length d0)∧Own w.heap.size w' (q0):=
 ints_any (vs:=[.slice A0 a0.length c0,.agg u1.toArray,.slice A2 a2.length c2,.int .i64 a3]) (lg a0 a1 a2 a3 r0 r1 hR).2.1 (fun _=>dens_cons (den_nets h0) (dens_cons (den_net h1) (dens_cons (den_ints h2) (dens_cons (den_i _) dens_nil))))
theorem wM{Q0 Q1 Q2:Prop}(hR:(r0,r1)=mV a0 a1 a2 a3)(_:Q0)(_:Q1)(_:Q2):cN (r0.flatMap intE)≤1099511627776:=by
 rw[cN_ints];have:=(lg a0 a1 a2 a3 r0 r1 hR).1;omega
end
end Go.Proofs.YtjijpkphkicoeaaGreat
