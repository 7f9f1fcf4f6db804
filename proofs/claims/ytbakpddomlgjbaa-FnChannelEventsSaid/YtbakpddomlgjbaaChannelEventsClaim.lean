
/- Every event that can happen in a channel keeps what has been delivered, and afterwards the messages that are missing are those that have neither been delivered nor come early. No condition. -/
import Derived.Test.YtbakpddomlgjbaaRows
import Derived.Test.YtbakpddomlgjbaaCt
import Derived.Test.YtbakpddomlgjbaaLb
set_option linter.unusedSimpArgs false
set_option linter.unusedVariables false
namespace Go.Proofs.Ytbakpddomlgjbaa.fnChannelEvents
open Go.ChangeShapes Go.WideShapes Go.ChangeAt Go.RowKit Go.Tr Go.Deep
theorem own:ownKnob Try.prog.godebug=none:=by kernel_rfl
set_option maxRecDepth 100000 in
theorem lifted(os:Os)(started:os.Started)(H:Type)(enc:TypeId×Value->H):
  ReturnsInHanded {} Try.checked os 3 .any (Rows.fnChannelEventsSpec.pre6 enc Try.prog Try.f3 Rows.fnChannelEventsRow.domain false) (Rows.fnChannelEventsSpec.post enc Try.prog Try.f3 false true false false):=by
 refine returnsInHanded_of_change (C:=Try.checked) own started (by kernel_rfl) Try.func3
  (ChangeSpec.witness6 (enc:=enc) (C:=Try.checked) false ⟨#[], #[.slice none 0 0],[]⟩ 8 (by kernel_rfl) (by kernel_rfl) (by kernel_rfl) (by kernel_rfl)) ?_
 intro W base args ds gs before hval0 hW hcnd _;have hval:∀(j:Nat) t v,Try.f3.params[j]? =some t->args[j]? =some v->Value.okWide Try.prog W .any base t v:=hval0;have hW':=hW;obtain⟨p,q,hA0,hV,rfl,hfz,hnd⟩:=hW;have hA:DataW.TrodAll enc Try.prog W 0 (fun _=>true) true Try.f3.params.toList args.toList ds p:=hA0;rw[Try.params3]at hA hval;obtain⟨v0,vs0,d0,ds0,p0,q0,hargs,rfl,rfl,h0,r0⟩:=trodAll_cons hA;obtain⟨rfl,rfl,rfl⟩:=trodAll_nil r0;obtain rfl:args= #[v0]:=by cases args;simp_all
 have c0:=one_cell Try.underlying22 (hval 0 22 v0 rfl rfl);obtain⟨f0,h0⟩:=h0;rw[c0]at h0;obtain⟨A0,n0,k0,xs0,bs0,e0,l0,g0,t0⟩:=Ac Try.underlying22 Try.underlying5 (by kernel_rfl) h0;obtain rfl:v0=.slice A0 n0 k0:=by simpa using e0
 subst l0;clear hA0 hval0;refine((RO xs0 g0).Ru (TK t0)).mono fun e W' ⟨he,hb⟩=> ?_
 subst he;exact⟨_,rfl,GD (tb:=4) (by kernel_rfl) (by kernel_rfl) hW' (by obtain⟨rfl,rfl⟩:=trodVars_none hV;rfl) rfl rfl Try.underlying4 hb⟩
theorem over:Rows.fnChannelEventsRow.holds Try.pinned (OpenSpec.ofChange Rows.fnChannelEventsSpec):=
 OpenClaim.holds_of_wide 3 Try.f3 rfl rfl rfl rfl rfl rfl rfl ⟨rfl,rfl,rfl,rfl,rfl⟩ rfl rfl rfl rfl rfl (by kernel_rfl) Try.func3 (by kernel_rfl)
  (of_decide_eq_true (by kernel_rfl)) (by unfold Func.isWrapper;first|(rw[if_pos (by decide+kernel)];kernel_rfl)|(rw[if_neg (by decide+kernel)];exact⟨rfl,rfl⟩))
  (fun os started H enc _=>lifted os started H enc)
theorem proved:Rows.FnChannelEventsSaid:=
 over
#print axioms proved
end Go.Proofs.Ytbakpddomlgjbaa.fnChannelEvents
