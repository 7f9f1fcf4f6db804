
/- The reference's nets: wires, new agents, holes. -/
import Derived.Test.YtgiceoidjipgmaaGreatShort
import Derived.Test.YtgiceoidjipgmaaGreatProg
import Derived.Test.YtgiceoidjipgmaaGreatVti
import Derived.Test.YtgiceoidjipgmaaGreatNb
set_option linter.unusedSimpArgs false
set_option linter.unusedVariables false
namespace Go.Proofs.YtgiceoidjipgmaaGreat
open Go Go.RowKit Go.Proofs Go.Tr
theorem Fb:dA Tryz.prog 76=true:=by kernel_rfl
theorem Iy:dA Tryz.prog 75=true:=by kernel_rfl
theorem Fx(a b:Int):aF Tryz.prog 77 [.int .i64 a,.int .i64 b] (.agg [.int .i64 a,.int .i64 b]):=by
 refine aF.intro (nt:=8) aQ mixed (by kernel_rfl) Tryz.func77 rfl rfl rfl rfl rfl ?_;exact rfl
theorem Pz(xs:List Int)(hx:xs.length≤1048576):aC Tryz.prog 120 [.rsl (.int .i64) xs] [] (.sl 10000) [.row 10000 2 1 (.int .i64) xs []]:=by
 refine aC.intro (nt:=6) aQ mixed (by kernel_rfl) Tryz.func120 rfl rfl rfl rfl rfl rfl ?_;refine aI (by show 0+xs.length≤_;omega) ?_;refine fin [(10000,5)] (aI rfl ?_);exact⟨⟨rfl,nP⟩,trivial⟩
theorem KE:aC Tryz.prog 120 [.raw (.slice none 0 0)] [] (.sl 10000) [.row 10000 2 1 (.int .i64) [] []]:=aC.of_nil (Pz [] (by simp))
abbrev tA(xs:List ah)(us:List Value):List Tok:=[.bY 10000 34 [.sl 10001],.row 10001 105 5 aL xs us]
abbrev tAn(g:Nat)(xs:List ah)(us:List Value):List Tok:=[.bY 10000 34 [.sl g],.row g 105 5 aL xs us]
set_option maxRecDepth 100000 in
theorem Ck(xs:List ah)(us:List Value)(p q:bX)(hp:bq xs p)(hq:bq xs q):aC Tryz.prog 76 [.ptr 10000 0,vP p,vP q] (tA xs us) (.tup []) (tA (gG xs p q) us):=by
 refine aC.expose Fb ?_;intro us' hpre hlen
 skip
 have hq':bq (gI xs p q) q:=hq.set;obtain⟨p1,p2,p3,p4⟩:=hp;obtain⟨q1,q2,q3,q4⟩:=hq';have q2':q.1<(xs.length:Nat):=by rwa[iU]at q2
 refine aC.intro (nt:=32) aQ mixed Fb Tryz.func76 rfl rfl rfl rfl rfl rfl ?_;refine aI ⟨p1,p2⟩ ?_;refine aI (uN hlen p1 p2) ?_;refine aI ⟨p3,p4⟩ ?_;refine eI 10001 (aI ⟨⟨p1,p2,tZ hlen p1 p2 (by decide)⟩,p3,p4⟩ ?_);refine aI (by kernel_rfl) ?_;refine aI ⟨q1,q2⟩ ?_;refine aI (uN hlen q1 q2') ?_;refine aI ⟨q3,q4⟩ ?_;refine eI 10001 (aI ⟨⟨q1,q2,tZ hlen q1 q2' (by decide)⟩,q3,q4⟩ ?_);refine aI (by kernel_rfl) ?_;refine fin [] (aI rfl ?_);exact⟨trivial,⟨rfl,trivial⟩,⟨rfl,hpre⟩,trivial⟩
end Go.Proofs.YtgiceoidjipgmaaGreat
