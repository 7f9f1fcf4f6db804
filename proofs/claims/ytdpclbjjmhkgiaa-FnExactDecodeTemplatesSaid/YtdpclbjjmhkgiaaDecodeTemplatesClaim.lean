
/- The program reads templates out of bytes as the reference does, for all bytes; they are memory of their own, and the bytes stay as they were. No condition. -/
import Derived.Test.YtdpclbjjmhkgiaaRows
import Derived.Test.YtdpclbjjmhkgiaaDecodeTemplatesFacts
import Derived.Test.YtdpclbjjmhkgiaaDecodeTemplatesLaw
import Derived.Test.YtdpclbjjmhkgiaaLb
import Derived.Test.YtdpclbjjmhkgiaaDec
set_option linter.unusedSimpArgs false
set_option linter.unusedVariables false
namespace Go.Proofs.Ytdpclbjjmhkgiaa.decodeTemplates_
open Go.ChangeShapes Go.WideShapes Go.ChangeAt Go.RowKit Go.Tr Go.Deep
theorem own:ownKnob Try.prog.godebug=none:=by kernel_rfl
set_option maxRecDepth 100000 in
theorem lifted(os:Os)(started:os.Started)(H:Type)(enc:TypeId×Value→H):
  ReturnsInHanded {} Try.checked os 4 .any (Rows.fnExactDecodeTemplatesSpec.pre6 enc Try.prog Try.f4 Rows.fnExactDecodeTemplatesRow.domain false) (Rows.fnExactDecodeTemplatesSpec.post enc Try.prog Try.f4 false true false false):=by
 refine returnsInHanded_of_change (C:=Try.checked) own started (by kernel_rfl) Try.func4
  (ChangeSpec.witness6 (enc:=enc) (C:=Try.checked) false ⟨#[], #[.slice none 0 0],[]⟩ 8 (by kernel_rfl) (by kernel_rfl) (by kernel_rfl) (by kernel_rfl)) ?_
 intro W base args ds gs before hval0 hW hcnd _;have hval:∀(j:Nat) t v,Try.f4.params[j]? =some t→args[j]? =some v→Value.okWide Try.prog W .any base t v:=hval0;have hW':=hW;obtain⟨p,q,hA0,hV,rfl,hfz,hnd⟩:=hW;have hA:DataW.TrodAll enc Try.prog W 0 (fun _=>true) true Try.f4.params.toList args.toList ds p:=hA0;rw[Try.params4]at hA hval;obtain⟨v0,vs0,d0,ds0,p0,q0,hargs,rfl,rfl,h0,r0⟩:=trodAll_cons hA;obtain⟨rfl,rfl,rfl⟩:=trodAll_nil r0;obtain rfl:args= #[v0]:=by cases args;simp_all
 obtain⟨f0,h0⟩:=h0;rw[one_cell Try.underlying22 (hval 0 22 v0 rfl rfl)]at h0;obtain⟨A0,n0,c0,a0,b0,e0,hn0,hr0,t0⟩:=F3 Try.underlying22 Try.underlying5 (by kernel_rfl) h0;obtain rfl:v0=.slice A0 n0 c0:=by simpa using e0
 subst hn0;clear hA0 hval0;refine(vQ a0 W hr0 t0).mono fun e W' ⟨he,hb⟩=> ?_
 subst he;exact⟨_,rfl,GI (tb:=4) (by kernel_rfl) (by kernel_rfl) hW' (by obtain⟨rfl,rfl⟩:=trodVars_none hV;rfl) rfl rfl Try.underlying4 hb⟩
theorem over:Rows.fnExactDecodeTemplatesRow.holds Try.pinned (OpenSpec.ofChange Rows.fnExactDecodeTemplatesSpec):=
 OpenClaim.holds_of_wide 4 Try.f4 rfl rfl rfl rfl rfl rfl rfl ⟨rfl,rfl,rfl,rfl,rfl⟩ rfl rfl rfl rfl rfl (by kernel_rfl) Try.func4 closed
  (of_decide_eq_true (by kernel_rfl)) (by unfold Func.isWrapper;first|(rw[if_pos (by decide+kernel)];kernel_rfl)|(rw[if_neg (by decide+kernel)];exact⟨rfl,rfl⟩))
  (fun os started H enc _=>lifted os started H enc)
theorem proved:Rows.FnExactDecodeTemplatesSaid:=
 over
#print axioms proved
end Go.Proofs.Ytdpclbjjmhkgiaa.decodeTemplates_
