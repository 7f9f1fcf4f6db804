
/- Drawn nets, walked: the whole. -/
import Derived.Test.YtnamelcmcikeoaaShort
import Derived.Test.YtnamelcmcikeoaaBd
set_option linter.unusedSimpArgs false
set_option linter.unusedVariables false
namespace Go.Proofs.Ytnamelcmcikeoaa
open Go Go.RowKit Go.Proofs Go.Tr
set_option maxRecDepth 100000 in
theorem RF{A:Int→Prop}{xs:List ah}(us:List Value)(hN:mg A xs){i:Nat}(hi:i<xs.length)(h1:1≤i)(b:Bool)(hb:b=true↔A (i:Nat)):aH Try.prog 43 [.ptr 10000 0,vP (((i:Nat):Int),0)] (tA xs us) (.bool b) (tA xs us):=by
 have hp:=dw hi (hN.wf i hi);obtain⟨t1,t2⟩:=hN.tied hi h1;refine aH.intro (nt:=19) aS mixed (by kernel_rfl) Try.func43 rfl rfl rfl rfl rfl rfl ?_;refine Or.inr (eI _ (eI _ (aI (Oc xs us (((i:Nat):Int),0) hp) ?_)));cases hq:decide ((0:Int)<(aB xs (((i:Nat):Int),0)).1)with
 |true=>
  have hA:A (i:Nat):=Classical.byContradiction fun e=>by rw[t2 e]at hq;exact absurd (of_decide_eq_true hq) (by decide)
  obtain⟨k1,k2,k3⟩:=t1 hA;refine Or.inr (aI (fun g=> ?_) (fun g=>by rw[show decide ((0:Int)<(aB xs (((i:Nat):Int),0)).1)=false from g]at hq;cases hq));refine eI _ (eI _ (aI (Oc xs us (aB xs (((i:Nat):Int),0)) k2) ?_));refine aI (fun _=>⟨by kernel_rfl,rfl⟩) ?_;refine aI (by kernel_rfl) ?_;refine fin [] (aI ?_ ?_)
  ·show(bif decide ((0:Int)<(aB xs (((i:Nat):Int),0)).1)then bX [(aB xs (aB xs (((i:Nat):Int),0))).1,(aB xs (aB xs (((i:Nat):Int),0))).2] [((i:Nat):Int),0]else false)=b;rw[hq,k3,hb.2 hA];simp[bX]
  ·exact⟨trivial,⟨rfl,trivial⟩,⟨rfl,pR _⟩,trivial⟩
 |false=>
  have hA:¬A (i:Nat):=fun e=>by rw[decide_eq_true (t1 e).1]at hq;cases hq
  have hbf:b=false:=by cases b with|true=>exact absurd (hb.1 rfl) hA|false=>rfl
  refine Or.inr (aI (fun g=>by rw[show decide ((0:Int)<(aB xs (((i:Nat):Int),0)).1)=true from g]at hq;cases hq) (fun g=> ?_));refine eI (.agg [.int .i64 0,.int .i64 0]) ?_;refine aI (fun _=>⟨by kernel_rfl,rfl⟩) ?_;refine aI (by kernel_rfl) ?_;refine fin [] (aI ?_ ?_)
  ·show(bif decide ((0:Int)<(aB xs (((i:Nat):Int),0)).1)then _ else false)=b;rw[hq,hbf];rfl
  ·exact⟨trivial,⟨rfl,trivial⟩,⟨rfl,pR _⟩,trivial⟩
theorem G6{A:Int→Prop}{xs:List ah}(us:List Value)(hN:mg A xs){i:Nat}(hi:i<xs.length)(h1:1≤i)(b:Bool)(hb:b=true↔A (i:Nat)){s:Int}(hs:s=0):aH Try.prog 43 [.ptr 10000 0,vP (((i:Nat):Int),s)] (tA xs us) (.bool b) (tA xs us):=by
 subst hs;exact RF us hN hi h1 b hb
end Go.Proofs.Ytnamelcmcikeoaa
