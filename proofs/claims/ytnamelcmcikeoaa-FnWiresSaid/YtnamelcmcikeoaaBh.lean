
/- Drawn nets: a law's net is valid. -/
import Derived.Test.YtnamelcmcikeoaaShort
import Derived.Test.YtnamelcmcikeoaaBg
import Derived.Test.YtnamelcmcikeoaaWc
set_option linter.unusedSimpArgs false
set_option linter.unusedVariables false
namespace Go.Proofs.Ytnamelcmcikeoaa
open Go Go.RowKit Go.Proofs Go.Tr
theorem QG(code:List Int)(d:DS)(hb:Bytes code)(hd:d.k≤70000000):∃(xs:List ah) (d':DS),ow xs∧d'.k≤d.k+1000010∧aH Try.prog 12 [.ptr 10000 0] (kE code d) (.agg [.sl 10001]) (kE code d'++[.row 10001 34 5 aL xs []]):=by
 have p1:=eO code d 6;have p2:=iy hb d 6;have p3:=dP hb d (n:=6) (by decide);have q1:=eO code (pk code d 6).2 6;have q2:=iy hb (pk code d 6).2 6;have q3:=dP hb (pk code d 6).2 (n:=6) (by decide);have r1:=eO code (pk code (pk code d 6).2 6).2 120;obtain⟨nc,hnc⟩:∃n:Nat,(pk code d 6).1=(n:Nat):=⟨(pk code d 6).1.toNat,by omega⟩;obtain⟨ns,hns⟩:∃n:Nat,(pk code (pk code d 6).2 6).1=(n:Nat):=⟨(pk code (pk code d 6).2 6).1.toNat,by omega⟩
 have hs:∀b,Jk code (pk code (pk code (pk code d 6).2 6).2 120).2 nc ns b:=fun b=>by
  cases b with
  |true=>exact RB code _ hb (by omega) nc ns (by omega) (by omega)
  |false=>exact RA code _ hb (by omega) nc ns (by omega) (by omega)
 obtain⟨xs,d',h1,h2,h3⟩:=hs ((pk code (pk code (pk code d 6).2 6).2 120).1==0);rw[←hnc,←hns]at h3;refine⟨xs,d',h1,by omega,?_⟩;refine aH.intro (nt:=13) aS mixed (by kernel_rfl) Try.func12 rfl rfl rfl rfl rfl rfl ?_;refine Or.inr (eI _ (eI _ (aI (bC code d hb (by omega) 6) ?_)));refine Or.inr (eI _ (eI _ (aI (bC code (pk code d 6).2 hb (by omega) 6) ?_)));refine Or.inr (eI _ (eI _ (aI (KG code (pk code (pk code d 6).2 6).2 hb (by omega) 120) ?_)));refine Or.inr (eI _ (eI _ (aI h3 ?_)));refine fin [(10001,12)] (aI rfl ?_);exact⟨trivial,⟨rfl,⟨rfl,rfl⟩,⟨rfl,rfl⟩,trivial⟩,⟨rfl,nP⟩,trivial⟩
theorem MH(code:List Int)(hb:Bytes code):∃xs:List ah,ow xs∧aH Try.prog 5 [.rsl aU code] [] (.agg [.sl 10000]) [.row 10000 34 5 aL xs []]:=by
 obtain⟨xs,d',h1,_,h3⟩:=QG code ⟨0,0⟩ hb (by decide);refine⟨xs,h1,?_⟩;refine aH.intro (nt:=6) aS mixed (by kernel_rfl) Try.func5 rfl rfl rfl rfl rfl rfl ?_;refine Or.inr (eI _ (eI _ (aI (NT code) ?_)));refine Or.inr (eI _ (eI _ (aI h3 ?_)));refine fin [(10000,5)] (aI rfl ?_);exact⟨⟨rfl,nP⟩,trivial⟩
theorem MG(code:List Int)(hb:Bytes code):∃xs:List ah,ow xs∧iK Try.prog 5 [.rsl aU code] [] (.agg [.rsl aL xs]) []:=by
 obtain⟨xs,h1,h2⟩:=MH code hb;exact⟨xs,h1,iK.fz (aH.g h2) rfl⟩
end Go.Proofs.Ytnamelcmcikeoaa
