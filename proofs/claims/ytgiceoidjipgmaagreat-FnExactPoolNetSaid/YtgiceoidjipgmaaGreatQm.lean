
/- PoolNet: both sides walked whole. -/
import Derived.Test.YtgiceoidjipgmaaGreatShort
import Derived.Test.YtgiceoidjipgmaaGreatQk
import Derived.Test.YtgiceoidjipgmaaGreatQl
set_option linter.unusedSimpArgs false
set_option linter.unusedVariables false
namespace Go.Proofs.YtgiceoidjipgmaaGreat
open Go Go.RowKit Go.Proofs Go.Tr
theorem Ot{m:bE}{xs:List ah}(h:lY xs m)(hs:qQ m)(hl:m.1.length≤1500):aC Tryz.prog 38 [.ptr 10000 0] (CY m []) (.agg [.sl 10003]) ([.row 10003 105 5 aL (jG m) []]++CY m []):=
 aC.Cv (ts1:=[.row 10000 105 5 aL (jG m) []]) (r1:=.agg [.sl 10000]) aQ [81] IE (PW m h hs hl) rfl rfl rfl
theorem vH:dA Tryz.prog 16=true:=by kernel_rfl
set_option maxHeartbeats 4000000 in
set_option maxRecDepth 100000 in
theorem NI(p:fA)(h:GI p)(hsm:om p):Bl 16 [.rp qm p] (je p):=by
 have hc0:=h.cells;obtain⟨ho,hor⟩:=ru h p.2.1.length;have hosm:=Lb ho hc0 (by omega);have hun:=Ot ho hosm (by rw[ho.same.1];exact hc0);cases hd:decide (((600:Nat):Int)<((jG (gB p)).length:Nat))with
 |true=>
  have hd':decide (600<(jG (gB p)).length)=true:=by rw[←hd,Bool.eq_iff_iff,decide_eq_true_eq,decide_eq_true_eq];omega
  rw[show je p=([],4) by unfold je;rw[hd'];rfl];refine Or.inl ⟨rfl,?_⟩;refine aC.intro (nt:=15) aQ mixed vH Tryz.func16 rfl rfl rfl rfl rfl rfl ?_;refine Or.inr (eI _ (eI _ (aI (La p h hsm) ?_)));refine Or.inr (eI _ (eI _ (aI hun ?_)));refine aI (fun _=> ?_) (fun q=>by have q:decide (((600:Nat):Int)<((jG (gB p)).length:Nat))=false:=q;rw[hd]at q;cases q);refine fin [] (aI rfl ?_);exact trivial
 |false=>
  have hd':decide (600<(jG (gB p)).length)=false:=by rw[←hd,Bool.eq_iff_iff,decide_eq_true_eq,decide_eq_true_eq];omega
  rw[show je p=(jG (gB p),0) by unfold je;rw[hd'];rfl];refine Or.inr ?_;refine aC.intro (nt:=15) aQ mixed vH Tryz.func16 rfl rfl rfl rfl rfl rfl ?_;refine Or.inr (eI _ (eI _ (aI (La p h hsm) ?_)));refine Or.inr (eI _ (eI _ (aI hun ?_)));refine aI (fun q=>by have q:decide (((600:Nat):Int)<((jG (gB p)).length:Nat))=true:=q;rw[hd]at q;cases q) (fun _=> ?_);refine fin [(10000,8)] (aI rfl ?_);exact⟨⟨rfl,nP⟩,trivial⟩
theorem IB:dA Tryz.prog 5=true:=by kernel_rfl
theorem Iz:dA Tryz.prog 7=true:=by kernel_rfl
theorem IU(p:fA)(hs:om p):Bl 5 [Di p] (eu p):=by
 cases a1:iL p with
 |false=>
  rw[show eu p=([],1) by unfold eu;rw[a1];rfl];refine Or.inl ⟨rfl,?_⟩;refine aC.intro (nt:=10) aQ mixed IB Tryz.func5 rfl rfl rfl rfl rfl rfl ?_;refine Or.inr (eI _ (eI _ (aI (aC.DW aQ [54] AL (Mv p hs) rfl) ?_)));refine aI (fun _=> ?_) (fun q=>by have q:(!iL p)=false:=q;rw[a1]at q;cases q);refine fin [] (aI rfl ?_);exact trivial
 |true=>
  rw[show eu p=je p by unfold eu;rw[a1];rfl];have hp:GI p:=AQ (by rw[←pQ];exact a1);rcases NI p hp hs with⟨h1,h2⟩|h2
  ·refine Or.inl ⟨h1,?_⟩;refine aC.intro (nt:=10) aQ mixed IB Tryz.func5 rfl rfl rfl rfl rfl rfl ?_;refine Or.inr (eI _ (eI _ (aI (aC.DW aQ [54] AL (Mv p hs) rfl) ?_)));refine aI (fun q=>by have q:(!iL p)=true:=q;rw[a1]at q;cases q) (fun _=> ?_);refine Or.inr (eI _ (eI _ (aI (aC.Cv (r2:=.tup [.agg [.raw (.slice none 0 0)],.int .i64 (je p).2]) (ts2:=[]) aQ [54] vH h2 rfl rfl rfl) ?_)));refine fin [] (aI rfl ?_);exact trivial
  ·refine Or.inr ?_;refine aC.intro (nt:=10) aQ mixed IB Tryz.func5 rfl rfl rfl rfl rfl rfl ?_;refine Or.inr (eI _ (eI _ (aI (aC.DW aQ [54] AL (Mv p hs) rfl) ?_)));refine aI (fun q=>by have q:(!iL p)=true:=q;rw[a1]at q;cases q) (fun _=> ?_);refine Or.inr (eI _ (eI _ (aI (aC.Cv (r2:=.tup [.agg [.sl 10001],.int .i64 (je p).2]) (ts2:=[.row 10001 105 5 aL (je p).1 []]) aQ [54] vH h2 rfl rfl rfl) ?_)));refine fin [(10000,7)] (aI rfl ?_);exact⟨⟨rfl,nP⟩,trivial⟩
theorem IQ(p:fA)(hs:om p):Bl 7 [Di p] (eu p):=by
 cases a1:iL p with
 |false=>
  rw[show eu p=([],1) by unfold eu;rw[a1];rfl];refine Or.inl ⟨rfl,?_⟩;refine aC.intro (nt:=11) aQ mixed Iz Tryz.func7 rfl rfl rfl rfl rfl rfl ?_;refine Or.inl (eI _ (aI (qO p hs) ?_));rw[←pQ];refine aI (fun _=> ?_) (fun q=>by have q:(!iL p)=false:=q;rw[a1]at q;cases q);refine fin [] (aI rfl ?_);exact trivial
 |true=>
  rw[show eu p=je p by unfold eu;rw[a1];rfl];have hp:GI p:=AQ (by rw[←pQ];exact a1);rcases Py p hp hs with⟨h1,h2⟩|h2
  ·refine Or.inl ⟨h1,?_⟩;refine aC.intro (nt:=11) aQ mixed Iz Tryz.func7 rfl rfl rfl rfl rfl rfl ?_;refine Or.inl (eI _ (aI (qO p hs) ?_));rw[←pQ];refine aI (fun q=>by have q:(!iL p)=true:=q;rw[a1]at q;cases q) (fun _=> ?_);refine Or.inr (eI _ (eI _ (aI (aC.Cv (r2:=.tup [.agg [.raw (.slice none 0 0)],.int .i64 (je p).2]) (ts2:=[]) aQ [54] AJ h2 rfl rfl rfl) ?_)));refine fin [] (aI rfl ?_);exact trivial
  ·refine Or.inr ?_;refine aC.intro (nt:=11) aQ mixed Iz Tryz.func7 rfl rfl rfl rfl rfl rfl ?_;refine Or.inl (eI _ (aI (qO p hs) ?_));rw[←pQ];refine aI (fun q=>by have q:(!iL p)=true:=q;rw[a1]at q;cases q) (fun _=> ?_);refine Or.inr (eI _ (eI _ (aI (aC.Cv (r2:=.tup [.agg [.sl 10001],.int .i64 (je p).2]) (ts2:=[.row 10001 105 5 aL (je p).1 []]) aQ [54] AJ h2 rfl rfl rfl) ?_)));refine fin [(10000,8)] (aI rfl ?_);exact⟨⟨rfl,nP⟩,trivial⟩
end Go.Proofs.YtgiceoidjipgmaaGreat
