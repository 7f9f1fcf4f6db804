
/- LazySavings: both sides; the contracts for the law. Printed by gen_hn.py. -/
import Derived.Test.YtjijpkphkicoeaaGreatHp
import Derived.Test.YtjijpkphkicoeaaGreatYq
set_option linter.unusedSimpArgs false
set_option linter.unusedVariables false
namespace Go.Proofs.YtjijpkphkicoeaaGreat
open Go Go.RowKit Go.Proofs Go.Tr
theorem je(bk:List (List aj))(xs:List aj)(st:Int):∃(p c:Int),aA Tryz.prog 45 [.rsl aR bk,.agg [.rsl aD xs],.int .i64 st] [] (.tup [.int .i64 p,.int .i64 c]) []∧aA Tryz.prog 44 [.rsl aR bk,.agg [.rsl aD xs],.int .i64 st] [] (.tup [.int .i64 p,.int .i64 c]) []:=by
 rcases La bk xs [] st with h|⟨c,hc,h⟩
 ·obtain⟨hs,hsp,b,c,t,R⟩:=Vj false h;have g:=R.end_;obtain⟨e1,e2,e3,e4,e5,e6⟩:=QH g false
  by_cases hc:c=0
  ·subst hc;cases b with
   |true=>
    obtain⟨_,c,u,L⟩:=Xm bk xs st true h;have hI:=Zd bk xs [] st hs hsp h R;have hS:=Yj bk xs [] st hs hsp R e1 e2 e3
    by_cases hc:c=0
    ·subst hc;exact⟨_,0,Zl bk xs st hI (Xi true 68 bk xs st hs h VG L rfl),Zo bk xs st h hS (Xh bk xs st hs h L rfl)⟩
    ·exact⟨0,c,Zk bk xs st hc hI (UF true 68 bk xs st hs h VG L hc),Zn bk xs st hc h hS (UC bk xs st hs h L hc)⟩
   |false=>exact⟨0,12,SF bk xs st (by decide) (Zc bk xs [] st hs hsp h R),Wj bk xs st (by decide) h (WI bk xs [] st hs hsp R e1 e2 e3)⟩
  ·exact⟨0,c,SF bk xs st hc (Zb bk xs [] st hc hs hsp h R),Wj bk xs st hc h (WH bk xs [] st hc hs hsp R e1 e2 e3)⟩
 ·exact⟨0,c,SF bk xs st hc (Za bk xs [] st hc h),Zm bk xs st hc h⟩
noncomputable def su(x0:List aQ)(x1:aQ)(x2:Int):Int×Int:=
 (Classical.choose (je (x0.map rV) (rV x1) x2),Classical.choose (Classical.choose_spec (je (x0.map rV) (rV x1) x2)))
theorem tT(x0:List aQ)(x1:aQ)(x2:Int)(r0 r1:Int)(h:(r0,r1)=su x0 x1 x2):
  aA Tryz.prog 45 [.rsl aR (x0.map rV),.agg [.rsl aD (rV x1)],.int .i64 x2] [] (.tup [.int .i64 r0,.int .i64 r1]) []∧aA Tryz.prog 44 [.rsl aR (x0.map rV),.agg [.rsl aD (rV x1)],.int .i64 x2] [] (.tup [.int .i64 r0,.int .i64 r1]) []:=by
 have k:=Classical.choose_spec (Classical.choose_spec (je (x0.map rV) (rV x1) x2));have h1:r0=Classical.choose (je (x0.map rV) (rV x1) x2):=congrArg Prod.fst h;have h2:r1=Classical.choose (Classical.choose_spec (je (x0.map rV) (rV x1) x2)):=congrArg Prod.snd h;subst h1 h2;exact k
theorem Tg{cx:Cx}{β:Nat→Value}{r c:Int}{v:Value}(h:Den cx β (.tup [.int .i64 r,.int .i64 c]) v):v=.tuple #[.int .i64 r,.int .i64 c]:=by
 unfold Den at h;obtain⟨vs,rfl,h⟩:=h;unfold aN at h;obtain⟨v1,vs1,rfl,h1,h⟩:=h;unfold aN at h;obtain⟨v2,vs2,rfl,h2,h⟩:=h;unfold aN at h;subst h;unfold Den at h1 h2;subst h1 h2;rfl
section
variable (a0:List aQ){A0:Option Addr}{c0:Nat}{p0:List Nat}(a1:aQ){p1:List Nat}{u1:List Value}(a2:Int)(r0 r1:Int)
theorem Aq(hR:(r0,r1)=su a0 a1 a2)(w:World)(h0:T1 w (.sl a0.length (a0.flatMap aQ.enc)) p0 (.slice A0 a0.length c0))(h1:TN w a1.enc p1 u1):
  Calls Tryz.prog 44 #[.slice A0 a0.length c0,.agg u1.toArray,.int .i64 a2] w fun e w'=>e=.returned (.tuple #[.int .i64 r0,.int .i64 r1])∧Ext w w':=
 aA.plain (vs:=[.slice A0 a0.length c0,.agg u1.toArray,.int .i64 a2]) (tT a0 a1 a2 r0 r1 hR).2 (fun _=>pQ (Jz h0) (pQ (M8 h1) (pQ (M7 _) JA))) fun _ _ h=>Tg h
theorem Ap(hR:(r0,r1)=su a0 a1 a2)(w:World)(h0:T1 w (.sl a0.length (a0.flatMap aQ.enc)) p0 (.slice A0 a0.length c0))(h1:TN w a1.enc p1 u1):
  Calls Tryz.prog 45 #[.slice A0 a0.length c0,.agg u1.toArray,.int .i64 a2] w fun e w'=>e=.returned (.tuple #[.int .i64 r0,.int .i64 r1])∧Ext w w':=
 aA.plain (vs:=[.slice A0 a0.length c0,.agg u1.toArray,.int .i64 a2]) (tT a0 a1 a2 r0 r1 hR).1 (fun _=>pQ (Jz h0) (pQ (M8 h1) (pQ (M7 _) JA))) fun _ _ h=>Tg h
end
end Go.Proofs.YtjijpkphkicoeaaGreat
