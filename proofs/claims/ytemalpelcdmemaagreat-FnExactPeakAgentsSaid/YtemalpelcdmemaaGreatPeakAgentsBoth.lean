
/- PeakAgents: both sides; the contracts for the law. Printed by gen_yq.py. -/
import Derived.Test.YtemalpelcdmemaaGreatYo
import Derived.Test.YtemalpelcdmemaaGreatYp
import Derived.Test.YtemalpelcdmemaaGreatYq
set_option linter.unusedSimpArgs false
set_option linter.unusedVariables false
namespace Go.Proofs.YtemalpelcdmemaaGreat
open Go Go.RowKit Go.Proofs Go.Tr
theorem ku(bk:List (List NAgent))(xs:List NAgent)(sch:List Int)(st:Int):∃(p c:Int),FCall Tryz.prog 46 [.rsl uNet bk,.agg [.rsl uAgent xs],.rsl (.int .i64) sch,.int .i64 st] [] (.tup [.int .i64 p,.int .i64 c]) []∧FCall Tryz.prog 45 [.rsl uNet bk,.agg [.rsl uAgent xs],.rsl (.int .i64) sch,.int .i64 st] [] (.tup [.int .i64 p,.int .i64 c]) []:=by
 rcases wm bk xs sch st with h|⟨c,hc,h⟩
 ·obtain⟨hs,hsp,b,c,t,R⟩:=EM false h;have g:=R.end_;obtain⟨e1,e2,e3,e4,e5,e6⟩:=Fq g false
  by_cases hc:c=0
  ·subst hc;cases b with
   |true=>
    have lt:=g.tr;have lc:=g.cu;exact⟨pkOf t.cu,0,Ic bk xs sch st (Ym bk xs sch st hs hsp h R) (by omega) (by omega),Ig bk xs sch st h (XL bk xs sch st hs hsp R e1 e2 e3)⟩
   |false=>exact⟨0,12,rT bk xs sch st (by decide) (Yl bk xs sch st hs hsp h R),xq bk xs sch st (by decide) h (R8 bk xs sch st hs hsp R e1 e2 e3)⟩
  ·exact⟨0,c,rT bk xs sch st hc (Yj bk xs sch st hc hs hsp h R),xq bk xs sch st hc h (R7 bk xs sch st hc hs hsp R e1 e2 e3)⟩
 ·exact⟨0,c,rT bk xs sch st hc (Yh bk xs sch st hc h),EX bk xs sch st hc h⟩
noncomputable def wM(x0:List aH)(x1:aH)(x2:List Int)(x3:Int):Int×Int:=
 (Classical.choose (ku (x0.map eT) (eT x1) x2 x3),Classical.choose (Classical.choose_spec (ku (x0.map eT) (eT x1) x2 x3)))
theorem xB(x0:List aH)(x1:aH)(x2:List Int)(x3:Int)(r0 r1:Int)(h:(r0,r1)=wM x0 x1 x2 x3):
  FCall Tryz.prog 46 [.rsl uNet (x0.map eT),.agg [.rsl uAgent (eT x1)],.rsl (.int .i64) x2,.int .i64 x3] [] (.tup [.int .i64 r0,.int .i64 r1]) []∧FCall Tryz.prog 45 [.rsl uNet (x0.map eT),.agg [.rsl uAgent (eT x1)],.rsl (.int .i64) x2,.int .i64 x3] [] (.tup [.int .i64 r0,.int .i64 r1]) []:=by
 have k:=Classical.choose_spec (Classical.choose_spec (ku (x0.map eT) (eT x1) x2 x3));have h1:r0=Classical.choose (ku (x0.map eT) (eT x1) x2 x3):=congrArg Prod.fst h;have h2:r1=Classical.choose (Classical.choose_spec (ku (x0.map eT) (eT x1) x2 x3)):=congrArg Prod.snd h;subst h1 h2;exact k
theorem VF{cx:Cx}{β:Nat→Value}{r c:Int}{v:Value}(h:Den cx β (.tup [.int .i64 r,.int .i64 c]) v):v=.tuple #[.int .i64 r,.int .i64 c]:=by
 unfold Den at h;obtain⟨vs,rfl,h⟩:=h;unfold aM at h;obtain⟨v1,vs1,rfl,h1,h⟩:=h;unfold aM at h;obtain⟨v2,vs2,rfl,h2,h⟩:=h;unfold aM at h;subst h;unfold Den at h1 h2;subst h1 h2;rfl
section
variable (a0:List aH){A0:Option Addr}{c0:Nat}{p0:List Nat}(a1:aH){p1:List Nat}{u1:List Value}(a2:List Int){A2:Option Addr}{c2:Nat}{p2:List Nat}(a3:Int)(r0 r1:Int)
theorem Ed(hR:(r0,r1)=wM a0 a1 a2 a3)(w:World)(h0:T1 w (.sl a0.length (a0.flatMap aH.enc)) p0 (.slice A0 a0.length c0))(h1:TN w a1.enc p1 u1)(h2:T1 w (.sl a2.length (a2.flatMap bg)) p2 (.slice A2 a2.length c2)):
  Calls Tryz.prog 45 #[.slice A0 a0.length c0,.agg u1.toArray,.slice A2 a2.length c2,.int .i64 a3] w fun e w'=>e=.returned (.tuple #[.int .i64 r0,.int .i64 r1])∧Ext w w':=
 FCall.plain (vs:=[.slice A0 a0.length c0,.agg u1.toArray,.slice A2 a2.length c2,.int .i64 a3]) (xB a0 a1 a2 a3 r0 r1 hR).2 (fun _=>bS (pR h0) (bS (tO h1) (bS (pQ h2) (bS (zw _) pU)))) fun _ _ h=>VF h
theorem Ec(hR:(r0,r1)=wM a0 a1 a2 a3)(w:World)(h0:T1 w (.sl a0.length (a0.flatMap aH.enc)) p0 (.slice A0 a0.length c0))(h1:TN w a1.enc p1 u1)(h2:T1 w (.sl a2.length (a2.flatMap bg)) p2 (.slice A2 a2.length c2)):
  Calls Tryz.prog 46 #[.slice A0 a0.length c0,.agg u1.toArray,.slice A2 a2.length c2,.int .i64 a3] w fun e w'=>e=.returned (.tuple #[.int .i64 r0,.int .i64 r1])∧Ext w w':=
 FCall.plain (vs:=[.slice A0 a0.length c0,.agg u1.toArray,.slice A2 a2.length c2,.int .i64 a3]) (xB a0 a1 a2 a3 r0 r1 hR).1 (fun _=>bS (pR h0) (bS (tO h1) (bS (pQ h2) (bS (zw _) pU)))) fun _ _ h=>VF h
end
end Go.Proofs.YtemalpelcdmemaaGreat
