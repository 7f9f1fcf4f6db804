
/- The program's net of a pool is the reference's, for all pools; it is memory of its own, and the pool stays as it was. No condition. -/
import Derived.Test.YtgiceoidjipgmaaGreatRows
import Derived.Test.YtgiceoidjipgmaaGreatPoolNetFacts
import Derived.Test.YtgiceoidjipgmaaGreatPoolNetLaw
import Derived.Test.YtgiceoidjipgmaaGreatEPool
import Derived.Test.YtgiceoidjipgmaaGreatDec
set_option linter.unusedSimpArgs false
set_option linter.unusedVariables false
namespace Go.Proofs.YtgiceoidjipgmaaGreat.poolNet_
open Go.ChangeShapes Go.WideShapes Go.ChangeAt Go.RowKit Go.Tr Go.Deep
theorem own:ownKnob Tryz.prog.godebug=none:=by kernel_rfl
set_option maxRecDepth 100000 in
theorem lifted(os:Os)(started:os.Started)(H:Type)(enc:TypeId×Value→H):
  ReturnsInHanded {} Tryz.checked os 3 .any (Rows.fnExactPoolNetSpec.pre6 enc Tryz.prog Tryz.f3 Rows.fnExactPoolNetRow.domain false) (Rows.fnExactPoolNetSpec.post enc Tryz.prog Tryz.f3 false true false false):=by
 refine returnsInHanded_of_change (C:=Tryz.checked) own started (by kernel_rfl) Tryz.func3
  (ChangeSpec.witness6 (enc:=enc) (C:=Tryz.checked) false ⟨#[], #[.agg #[.slice none 0 0,.int .i64 0,.int .i64 0,.int .i64 0,.slice none 0 0,.slice none 0 0,.int .i64 0]],[]⟩ 8 (by kernel_rfl) (by kernel_rfl) (by kernel_rfl) (by kernel_rfl)) ?_
 intro W base args ds gs before hval0 hW hcnd _;have hval:∀(j:Nat) t v,Tryz.f3.params[j]? =some t→args[j]? =some v→Value.okWide Tryz.prog W .any base t v:=hval0;have hW':=hW;obtain⟨p,q,hA0,hV,rfl,hfz,hnd⟩:=hW;have hA:DataW.TrodAll enc Tryz.prog W 0 (fun _=>true) true Tryz.f3.params.toList args.toList ds p:=hA0;rw[Tryz.params3]at hA hval;obtain⟨v0,vs0,d0,ds0,p0,q0,hargs,rfl,rfl,h0,r0⟩:=trodAll_cons hA;obtain⟨rfl,rfl,rfl⟩:=trodAll_nil r0;obtain rfl:args= #[v0]:=by cases args;simp_all
 obtain⟨f0,h0⟩:=h0;have c0:=LB Tryz.underlying30 (hval 0 30 v0 rfl rfl);obtain⟨a0,b0,t0⟩:=J9 _ _ _ h0;generalize v0.cells.toList=us0 at c0 t0;subst c0;clear hA0 hval0;refine(DF a0 W t0).mono fun e W' ⟨he,hb⟩=> ?_
 subst he;exact⟨_,rfl,Ij (tb:=4) (by kernel_rfl) (by kernel_rfl) hW' (by obtain⟨rfl,rfl⟩:=trodVars_none hV;rfl) rfl rfl Tryz.underlying4 hb⟩
theorem over:Rows.fnExactPoolNetRow.holds Tryz.pinned (OpenSpec.ofChange Rows.fnExactPoolNetSpec):=
 OpenClaim.holds_of_wide 3 Tryz.f3 rfl rfl rfl rfl rfl rfl rfl ⟨rfl,rfl,rfl,rfl,rfl⟩ rfl rfl rfl rfl rfl (by kernel_rfl) Tryz.func3 closed
  (of_decide_eq_true (by kernel_rfl)) (by unfold Func.isWrapper;first|(rw[if_pos (by decide+kernel)];kernel_rfl)|(rw[if_neg (by decide+kernel)];exact⟨rfl,rfl⟩))
  (fun os started H enc _=>lifted os started H enc)
theorem proved:Rows.FnExactPoolNetSaid:=
 over
#print axioms proved
end Go.Proofs.YtgiceoidjipgmaaGreat.poolNet_
