
/- ExpandedDefs: both sides; the contracts for the law. Printed by gen_ys.py. -/
import Derived.Test.YtjijpkphkicoeaaGreatShort
import Derived.Test.YtjijpkphkicoeaaGreatYt
set_option linter.unusedSimpArgs false
set_option linter.unusedVariables false
namespace Go.Proofs.YtjijpkphkicoeaaGreat
open Go Go.RowKit Go.Proofs Go.Tr
theorem Zbp(bk:List (List aj))(xs:List aj)(sch:List Int)(st:Int):∃(l:List Int) (c:Int),l.length≤4001∧Zbe 30 [.rsl aR bk,.agg [.rsl aD xs],.rsl (.int .i64) sch,.int .i64 st] l c∧Zbe 29 [.rsl aR bk,.agg [.rsl aD xs],.rsl (.int .i64) sch,.int .i64 st] l c:=by
 rcases La bk xs sch st with h|⟨c,hc,h⟩
 ·obtain⟨hs,hsp,b,c,t,R⟩:=Vj true h;have g:=R.end_;have lt:=g.tr;have lc:=g.cu;have le:=g.ex;have ld:=g.dl
  have nb:bk.length≤1000:=by
   obtain⟨hv,_⟩:=MN bk xs sch st h;unfold ku at hv;rw[qD]at hv;exact(Jr hv.1).1.bl
  by_cases hc:c=0
  ·subst hc;cases b with
   |true=>exact⟨_,0,(by rw[(ZbA bk.length t.ex).1];omega),.inr (ZbE bk xs sch st (Zd bk xs sch st hs hsp h R) nb (by omega) g.eb),.inr ((by have hS:=ZbF bk xs sch st (ZbP bk xs sch st hs hsp h R) nb (by omega) (by rw[g.df];exact g.eb);rw[g.df]at hS;exact hS))⟩
   |false=>exact⟨[],12,by simp,.inl ⟨rfl,Zbs bk xs sch st (by decide) (Zc bk xs sch st hs hsp h R)⟩,.inl ⟨rfl,Zbt bk xs sch st (by decide) (ZbL bk xs sch st hs hsp h R)⟩⟩
  ·exact⟨[],c,by simp,.inl ⟨rfl,Zbs bk xs sch st hc (Zb bk xs sch st hc hs hsp h R)⟩,.inl ⟨rfl,Zbt bk xs sch st hc (ZbK bk xs sch st hc hs hsp h R)⟩⟩
 ·exact⟨[],c,by simp,.inl ⟨rfl,Zbs bk xs sch st hc (Za bk xs sch st hc h)⟩,.inl ⟨rfl,Zbt bk xs sch st hc (ZbJ bk xs sch st hc h)⟩⟩
noncomputable def Zbq(x0:List aQ)(x1:aQ)(x2:List Int)(x3:Int):List Int×Int:=
 (Classical.choose (Zbp (x0.map rV) (rV x1) x2 x3),Classical.choose (Classical.choose_spec (Zbp (x0.map rV) (rV x1) x2 x3)))
theorem Zbr(x0:List aQ)(x1:aQ)(x2:List Int)(x3:Int)(r0:List Int)(r1:Int)(h:(r0,r1)=Zbq x0 x1 x2 x3):
  r0.length≤4001∧Zbe 30 [.rsl aR (x0.map rV),.agg [.rsl aD (rV x1)],.rsl (.int .i64) x2,.int .i64 x3] r0 r1∧Zbe 29 [.rsl aR (x0.map rV),.agg [.rsl aD (rV x1)],.rsl (.int .i64) x2,.int .i64 x3] r0 r1:=by
 have k:=Classical.choose_spec (Classical.choose_spec (Zbp (x0.map rV) (rV x1) x2 x3));have h1:r0=Classical.choose (Zbp (x0.map rV) (rV x1) x2 x3):=congrArg Prod.fst h;have h2:r1=Classical.choose (Classical.choose_spec (Zbp (x0.map rV) (rV x1) x2 x3)):=congrArg Prod.snd h;subst h1 h2;exact k
section
variable (a0:List aQ){A0:Option Addr}{c0:Nat}{p0:List Nat}(a1:aQ){p1:List Nat}{u1:List Value}(a2:List Int){A2:Option Addr}{c2:Nat}{p2:List Nat}(a3:Int)(r0:List Int)(r1:Int)
theorem Zbz(hR:(r0,r1)=Zbq a0 a1 a2 a3)(w:World)(h0:T1 w (.sl a0.length (a0.flatMap aQ.enc)) p0 (.slice A0 a0.length c0))(h1:TN w a1.enc p1 u1)(h2:T1 w (.sl a2.length (a2.flatMap bM)) p2 (.slice A2 a2.length c2)):
  Calls Tryz.prog 29 #[.slice A0 a0.length c0,.agg u1.toArray,.slice A2 a2.length c2,.int .i64 a3] w fun e w'=>∃(B0:Option Addr) (d0:Nat) (q0:List Nat),e=.returned (.tuple #[.slice B0 r0.length d0,.int .i64 r1])∧Ext w w'∧T1 w' (.sl r0.length (r0.flatMap bM)) q0 (.slice B0 r0.length d0):=
 (Zbm (vs:=[.slice A0 a0.length c0,.agg u1.toArray,.slice A2 a2.length c2,.int .i64 a3]) (Zbr a0 a1 a2 a3 r0 r1 hR).2.2 (fun _=>pQ (Jz h0) (pQ (M8 h1) (pQ (YE h2) (pQ (M7 _) JA))))).mono fun _ _ ⟨B,d,q,k1,k2,k3,_⟩=>⟨B,d,q,k1,k2,k3⟩
theorem Zbv(hR:(r0,r1)=Zbq a0 a1 a2 a3)(w:World)(h0:T1 w (.sl a0.length (a0.flatMap aQ.enc)) p0 (.slice A0 a0.length c0))(h1:TN w a1.enc p1 u1)(h2:T1 w (.sl a2.length (a2.flatMap bM)) p2 (.slice A2 a2.length c2)):
  Calls Tryz.prog 30 #[.slice A0 a0.length c0,.agg u1.toArray,.slice A2 a2.length c2,.int .i64 a3] w fun e w'=>∃(B0:Option Addr) (d0:Nat) (q0:List Nat),e=.returned (.tuple #[.slice B0 r0.length d0,.int .i64 r1])∧Ext w w'∧T1 w' (.sl r0.length (r0.flatMap bM)) q0 (.slice B0 r0.length d0)∧Own w.heap.size w' (q0):=
 Zbm (vs:=[.slice A0 a0.length c0,.agg u1.toArray,.slice A2 a2.length c2,.int .i64 a3]) (Zbr a0 a1 a2 a3 r0 r1 hR).2.1 (fun _=>pQ (Jz h0) (pQ (M8 h1) (pQ (YE h2) (pQ (M7 _) JA))))
theorem Zby{Q0 Q1 Q2:Prop}(hR:(r0,r1)=Zbq a0 a1 a2 a3)(_:Q0)(_:Q1)(_:Q2):cN (r0.flatMap bM)≤1099511627776:=by
 rw[ZG];have:=(Zbr a0 a1 a2 a3 r0 r1 hR).1;omega
end
end Go.Proofs.YtjijpkphkicoeaaGreat
