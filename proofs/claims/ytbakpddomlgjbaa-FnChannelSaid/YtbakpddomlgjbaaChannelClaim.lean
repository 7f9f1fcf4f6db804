
/- Over losses, repetitions and changes of order, what a channel has delivered is the beginning of the messages, and without further losses all messages are delivered within a bound. No condition. -/
import Derived.Test.YtbakpddomlgjbaaRows
import Derived.Test.YtbakpddomlgjbaaCx
import Derived.Test.YtbakpddomlgjbaaLb
set_option linter.unusedSimpArgs false
set_option linter.unusedVariables false
namespace Go.Proofs.Ytbakpddomlgjbaa.fnChannel
open Go.ChangeShapes Go.WideShapes Go.ChangeAt Go.RowKit Go.Tr Go.Deep
theorem own:ownKnob Try.prog.godebug=none:=by kernel_rfl
set_option maxRecDepth 100000 in
theorem lifted(os:Os)(started:os.Started)(H:Type)(enc:TypeId×Value->H):
  ReturnsInHanded {} Try.checked os 4 .any (Rows.fnChannelSpec.pre6 enc Try.prog Try.f4 Rows.fnChannelRow.domain false) (Rows.fnChannelSpec.post enc Try.prog Try.f4 false true false false):=by
 refine returnsInHanded_of_change (C:=Try.checked) own started (by kernel_rfl) Try.func4
  (ChangeSpec.witness6 (enc:=enc) (C:=Try.checked) false ⟨#[], #[.slice none 0 0,.slice none 0 0],[]⟩ 8 (by kernel_rfl) (by kernel_rfl) (by kernel_rfl) (by kernel_rfl)) ?_
 intro W base args ds gs before hval0 hW hcnd _;have hval:∀(j:Nat) t v,Try.f4.params[j]? =some t->args[j]? =some v->Value.okWide Try.prog W .any base t v:=hval0;have hW':=hW;obtain⟨p,q,hA0,hV,rfl,hfz,hnd⟩:=hW;have hA:DataW.TrodAll enc Try.prog W 0 (fun _=>true) true Try.f4.params.toList args.toList ds p:=hA0;rw[Try.params4]at hA hval;obtain⟨v0,vs0,d0,ds0,p0,q0,hargs,rfl,rfl,h0,r0⟩:=trodAll_cons hA;obtain⟨v1,vs1,d1,ds1,p1,q1,rfl,rfl,rfl,h1,r1⟩:=trodAll_cons r0;obtain⟨rfl,rfl,rfl⟩:=trodAll_nil r1;obtain rfl:args= #[v0,v1]:=by cases args;simp_all
 have c0:=one_cell Try.underlying22 (hval 0 22 v0 rfl rfl);have c1:=one_cell Try.underlying22 (hval 1 22 v1 rfl rfl);obtain⟨f0,h0⟩:=h0;obtain⟨f1,h1⟩:=h1;rw[c0]at h0;rw[c1]at h1;obtain⟨A0,n0,k0,xs0,bs0,e0,l0,g0,t0⟩:=Ac Try.underlying22 Try.underlying5 (by kernel_rfl) h0;obtain⟨A1,n1,k1,xs1,bs1,e1,l1,g1,t1⟩:=Ac Try.underlying22 Try.underlying5 (by kernel_rfl) h1;obtain rfl:v0=.slice A0 n0 k0:=by simpa using e0
 obtain rfl:v1=.slice A1 n1 k1:=by simpa using e1
 subst l0;subst l1;clear hA0 hval0;refine((LJ xs0 g0 xs1 g1).Ru (OE t0 t1)).mono fun e W' ⟨he,hb⟩=> ?_
 subst he;exact⟨_,rfl,GD (tb:=4) (by kernel_rfl) (by kernel_rfl) hW' (by obtain⟨rfl,rfl⟩:=trodVars_none hV;rfl) rfl rfl Try.underlying4 hb⟩
theorem over:Rows.fnChannelRow.holds Try.pinned (OpenSpec.ofChange Rows.fnChannelSpec):=
 OpenClaim.holds_of_wide 4 Try.f4 rfl rfl rfl rfl rfl rfl rfl ⟨rfl,rfl,rfl,rfl,rfl⟩ rfl rfl rfl rfl rfl (by kernel_rfl) Try.func4 (by kernel_rfl)
  (of_decide_eq_true (by kernel_rfl)) (by unfold Func.isWrapper;first|(rw[if_pos (by decide+kernel)];kernel_rfl)|(rw[if_neg (by decide+kernel)];exact⟨rfl,rfl⟩))
  (fun os started H enc _=>lifted os started H enc)
theorem proved:Rows.FnChannelSaid:=
 over
#print axioms proved
end Go.Proofs.Ytbakpddomlgjbaa.fnChannel
