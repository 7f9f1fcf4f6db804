
/- EquivalentTraces: the contracts for the law. -/
import Derived.Test.YtbdimbjclhmeoaaGreatKv
import Derived.Test.YtbdimbjclhmeoaaGreatRh
set_option linter.unusedSimpArgs false
set_option linter.unusedVariables false
namespace Go.Proofs.YtbdimbjclhmeoaaGreat
open Go Go.RowKit Go.Proofs Go.Tr
noncomputable def Zb8(x0:List bC)(x1:bC)(x2 x3:List aM):Bool×Int:=
 (Classical.choose (Zce (x0.map r9) (r9 x1) (x2.map Uv) (x3.map Uv)),Classical.choose (Classical.choose_spec (Zce (x0.map r9) (r9 x1) (x2.map Uv) (x3.map Uv))))
theorem Zb9(x0:List bC)(x1:bC)(x2 x3:List aM)(r0:Bool)(r1:Int)(h:(r0,r1)=Zb8 x0 x1 x2 x3):
  aA Tryz.prog 31 [.rsl aZ (x0.map r9),.agg [.rsl aD (r9 x1)],.rsl aV (x2.map Uv),.rsl aV (x3.map Uv)] [] (.tup [.bool r0,.int .i64 r1]) []/\
  aA Tryz.prog 30 [.rsl aZ (x0.map r9),.agg [.rsl aD (r9 x1)],.rsl aV (x2.map Uv),.rsl aV (x3.map Uv)] [] (.tup [.bool r0,.int .i64 r1]) []:=by
 have k:=Classical.choose_spec (Classical.choose_spec (Zce (x0.map r9) (r9 x1) (x2.map Uv) (x3.map Uv)));have h1:r0=Classical.choose (Zce (x0.map r9) (r9 x1) (x2.map Uv) (x3.map Uv)):=congrArg Prod.fst h;have h2:r1=Classical.choose (Classical.choose_spec (Zce (x0.map r9) (r9 x1) (x2.map Uv) (x3.map Uv))):=congrArg Prod.snd h;subst h1 h2;exact k
section
variable (a0:List bC){A0:Option Addr}{c0:Nat}{p0:dF}(a1:bC){p1:dF}{u1:bW}(a2:List aM){A2:Option Addr}{c2:Nat}{p2:dF}(a3:List aM){A3:Option Addr}{c3:Nat}{p3:dF}(r0:Bool)(r1:Int)
theorem Zcc(hR:(r0,r1)=Zb8 a0 a1 a2 a3)(w:World)(h0:T1 w (.sl a0.length (a0.flatMap bC.enc)) p0 (.slice A0 a0.length c0))(h1:TN w a1.enc p1 u1)(h2:T1 w (.sl a2.length (a2.flatMap aM.enc)) p2 (.slice A2 a2.length c2))(h3:T1 w (.sl a3.length (a3.flatMap aM.enc)) p3 (.slice A3 a3.length c3)):
  Calls Tryz.prog 30 #[.slice A0 a0.length c0,.agg u1.toArray,.slice A2 a2.length c2,.slice A3 a3.length c3] w fun e w'=>e=.returned (.tuple #[.bool r0,.int .i64 r1])/\Ext w w':=
 aA.plain (vs:=[.slice A0 a0.length c0,.agg u1.toArray,.slice A2 a2.length c2,.slice A3 a3.length c3]) (Zb9 a0 a1 a2 a3 r0 r1 hR).2 (fun _=>p8 (Kz h0) (p8 (OV h1) (p8 (OU h2) (p8 (OU h3) KA)))) fun _ _ h=>Zcs h
theorem Zcb(hR:(r0,r1)=Zb8 a0 a1 a2 a3)(w:World)(h0:T1 w (.sl a0.length (a0.flatMap bC.enc)) p0 (.slice A0 a0.length c0))(h1:TN w a1.enc p1 u1)(h2:T1 w (.sl a2.length (a2.flatMap aM.enc)) p2 (.slice A2 a2.length c2))(h3:T1 w (.sl a3.length (a3.flatMap aM.enc)) p3 (.slice A3 a3.length c3)):
  Calls Tryz.prog 31 #[.slice A0 a0.length c0,.agg u1.toArray,.slice A2 a2.length c2,.slice A3 a3.length c3] w fun e w'=>e=.returned (.tuple #[.bool r0,.int .i64 r1])/\Ext w w':=
 aA.plain (vs:=[.slice A0 a0.length c0,.agg u1.toArray,.slice A2 a2.length c2,.slice A3 a3.length c3]) (Zb9 a0 a1 a2 a3 r0 r1 hR).1 (fun _=>p8 (Kz h0) (p8 (OV h1) (p8 (OU h2) (p8 (OU h3) KA)))) fun _ _ h=>Zcs h
end
end Go.Proofs.YtbdimbjclhmeoaaGreat
