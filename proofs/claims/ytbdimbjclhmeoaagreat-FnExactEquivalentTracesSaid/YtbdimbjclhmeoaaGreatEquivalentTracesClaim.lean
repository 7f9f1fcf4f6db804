
/- The program's EquivalentTraces answers what the reference's does, for all arguments, and leaves them as they were. No condition. -/
import Derived.Test.YtbdimbjclhmeoaaGreatRows
import Derived.Test.YtbdimbjclhmeoaaGreatEquivalentTracesFacts
import Derived.Test.YtbdimbjclhmeoaaGreatEquivalentTracesLaw
import Derived.Test.YtbdimbjclhmeoaaGreatEEv
set_option linter.unusedSimpArgs false
set_option linter.unusedVariables false
namespace Go.Proofs.YtbdimbjclhmeoaaGreat.equivalentTraces_
open Go.ChangeShapes Go.WideShapes Go.ChangeAt Go.RowKit Go.Tr Go.Deep
theorem own:ownKnob Tryz.prog.godebug=none:=by kernel_rfl
set_option maxRecDepth 100000 in
theorem lifted(os:Os)(started:os.Started)(H:Type)(enc:TypeId×Value->H):
  ReturnsInHanded {} Tryz.checked os 5 .any (Rows.fnExactEquivalentTracesSpec.pre6 enc Tryz.prog Tryz.f5 Rows.fnExactEquivalentTracesRow.domain false) (Rows.fnExactEquivalentTracesSpec.post enc Tryz.prog Tryz.f5 false true false false):=by
 refine returnsInHanded_of_change (C:=Tryz.checked) own started (by kernel_rfl) Tryz.func5
  (ChangeSpec.witness6 (enc:=enc) (C:=Tryz.checked) false ⟨#[], #[.slice none 0 0,.agg #[.slice none 0 0],.slice none 0 0,.slice none 0 0],[]⟩ 8 (by kernel_rfl) (by kernel_rfl) (by kernel_rfl) (by kernel_rfl)) ?_
 intro W base args ds gs before hval0 hW hcnd _;have hval:∀(j:Nat) t v,Tryz.f5.params[j]? =some t->args[j]? =some v->Value.okWide Tryz.prog W .any base t v:=hval0;have hW':=hW;obtain⟨p,q,hA0,hV,rfl,hfz,hnd⟩:=hW;have hA:DataW.TrodAll enc Tryz.prog W 0 (fun _=>true) true Tryz.f5.params.toList args.toList ds p:=hA0;rw[Tryz.params5]at hA hval;obtain⟨v0,vs0,d0,ds0,p0,q0,hargs,rfl,rfl,h0,r0⟩:=trodAll_cons hA;obtain⟨v1,vs1,d1,ds1,p1,q1,rfl,rfl,rfl,h1,r1⟩:=trodAll_cons r0;obtain⟨v2,vs2,d2,ds2,p2,q2,rfl,rfl,rfl,h2,r2⟩:=trodAll_cons r1
 obtain⟨v3,vs3,d3,ds3,p3,q3,rfl,rfl,rfl,h3,r3⟩:=trodAll_cons r2;obtain⟨rfl,rfl,rfl⟩:=trodAll_nil r3;obtain rfl:args= #[v0,v1,v2,v3]:=by cases args;simp_all
 obtain⟨f0,h0⟩:=h0;rw[Go.Tr.one_cell Tryz.underlying22 (hval 0 22 v0 rfl rfl)]at h0;obtain⟨A0,n0,c0,a0,b0,e0,hn0,_,_,t0⟩:=BR bC.enc 1 (by omega) Tryz.underlying22 (by kernel_rfl) SH h0;obtain rfl:v0=.slice A0 n0 c0:=by simpa using e0
 subst hn0;obtain⟨f1,h1⟩:=h1;have c1:=Y3 Tryz.underlying25 (hval 1 25 v1 rfl rfl);obtain⟨a1,b1,t1⟩:=SH _ _ _ h1;generalize v1.cells.toList=us1 at c1 t1;subst c1;obtain⟨f2,h2⟩:=h2;rw[Go.Tr.one_cell Tryz.underlying26 (hval 2 26 v2 rfl rfl)]at h2;obtain⟨A2,n2,c2,a2,b2,e2,hn2,_,_,t2⟩:=BR aM.enc 5 (by omega) Tryz.underlying26 (by kernel_rfl) SF h2;obtain rfl:v2=.slice A2 n2 c2:=by simpa using e2
 subst hn2;obtain⟨f3,h3⟩:=h3;rw[Go.Tr.one_cell Tryz.underlying26 (hval 3 26 v3 rfl rfl)]at h3;obtain⟨A3,n3,c3,a3,b3,e3,hn3,_,_,t3⟩:=BR aM.enc 5 (by omega) Tryz.underlying26 (by kernel_rfl) SF h3;obtain rfl:v3=.slice A3 n3 c3:=by simpa using e3
 subst hn3;clear hA0 hval0;refine(Zcf a0 a1 a2 a3 W t0 t1 t2 t3).mono fun e W' ⟨he,hb⟩=> ?_
 subst he;exact⟨_,rfl,Uf (tb:=4) (by kernel_rfl) (by kernel_rfl) hW' (by obtain⟨rfl,rfl⟩:=trodVars_none hV;rfl) rfl rfl Tryz.underlying4 hb⟩
theorem over:Rows.fnExactEquivalentTracesRow.holds Tryz.pinned (OpenSpec.ofChange Rows.fnExactEquivalentTracesSpec):=
 OpenClaim.holds_of_wide 5 Tryz.f5 rfl rfl rfl rfl rfl rfl rfl ⟨rfl,rfl,rfl,rfl,rfl⟩ rfl rfl rfl rfl rfl (by kernel_rfl) Tryz.func5 closed
  (of_decide_eq_true (by kernel_rfl)) (by unfold Func.isWrapper;first|(rw[if_pos (by decide+kernel)];kernel_rfl)|(rw[if_neg (by decide+kernel)];exact⟨rfl,rfl⟩))
  (fun os started H enc _=>lifted os started H enc)
theorem proved:Rows.FnExactEquivalentTracesSaid:=
 over
#print axioms proved
end Go.Proofs.YtbdimbjclhmeoaaGreat.equivalentTraces_
