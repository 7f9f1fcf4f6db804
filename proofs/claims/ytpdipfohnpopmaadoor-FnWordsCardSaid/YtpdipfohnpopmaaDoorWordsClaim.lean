
/- A word is a name if and only if it is a lower name or an upper name, never both and never a keyword, and decimals are read back. No condition but what the row lists of package variables, which the card ties to the program's text. -/
import Derived.Test.YtpdipfohnpopmaaDoorRows
import Derived.Test.YtpdipfohnpopmaaDoorCards
import Derived.Test.YtpdipfohnpopmaaDoorTie
import Derived.Test.YtpdipfohnpopmaaDoorAf
import Derived.Test.YtpdipfohnpopmaaDoorLb
import Derived.ProofKit
import Derived.LaidMore
import Derived.OpenShut
import Derived.Stop.Joined
import Derived.Stop.LaidErr
import Derived.SevenTiedAt
set_option linter.unusedSimpArgs false
set_option linter.unusedVariables false
namespace Go.Proofs.YtpdipfohnpopmaaDoor.fnWords
open Go.ChangeShapes Go.WideShapes Go.ChangeAt Go.RowKit Go.Tr Go.Deep
theorem own:ownKnob Tryd.prog.godebug=none:=by kernel_rfl
theorem star : "*" ++ "errors.errorString" = "*errors.errorString" := by decide
theorem rowE (u : TypeId) (h : Tryd.prog.typeName? 3 u = some "*errors.errorString") : u = 79 :=
 typeName_ptr_named (nm := "errors.errorString") (by rw [star]; kernel_rfl) (by kernel_rfl) (by decide) u (by rw [star]; exact h)
theorem door_met(os:Os)(args:Array Value):laidMetH Tryd.prog Rows.fnWordsRow.laid ((World.doorLaid Tryd.prog 4000 os).forCall (fun _ _=>0) ⟨#[],args,[]⟩).memory:=
 laidMetH_of_parts3 (fuel:=8) (laidMet_of_run' 8 (by kernel_rfl) (by kernel_rfl)) (by kernel_rfl) (by kernel_rfl)
theorem gt_of{W:World}(hL:laidMetH Tryd.prog Rows.fnWordsRow.laid W):GT W []:=by
 rw [MakeChecks.laidMetH_plain _ _ _ (by kernel_rfl)] at hL; have h1 := (laidMet.tail (laidMet.tail hL)); have h2 := laidMet.tail (laidMet.tail h1); obtain ⟨a, s, hv, _⟩ := laid_sentinel h2 (show Tryd.prog.globalNamed "strconv.ErrSyntax" = some 0 by kernel_rfl) (by kernel_rfl) Tryd.underlying42 rowE Tryd.underlying79 Tryd.underlying81 rfl rfl Tryd.underlying9 (by kernel_rfl) (by kernel_rfl)
 have ht := Lib.tabIs_of_head (zs := Lib.pow10Tab) (show Tryd.prog.globalNamed "internal/strconv.uint64pow10" = some 2 by kernel_rfl) (by kernel_rfl) Tryd.underlying74 Tryd.underlying39 (by kernel_rfl) (by kernel_rfl) h1
 exact⟨ht,⟨_,_,hv⟩,by simp,by simp⟩
set_option maxRecDepth 100000 in
theorem lifted(os:Os)(started:os.Started)(H:Type)(enc:TypeId×Value->H):
  ReturnsInHanded {} Tryd.checked os 3 .any (fun w args=>(Rows.fnWordsSpec.pre enc Tryd.prog Tryd.f3 [] false w args/\laidMetH Tryd.prog Rows.fnWordsRow.laid w)/\sizedMet enc Tryd.prog Tryd.f3 (OpenSpec.ofChange Rows.fnWordsSpec) false w args)
   (Rows.fnWordsSpec.post enc Tryd.prog Tryd.f3 false true false false):=by
 refine returnsInHanded_of_change_and (C:=Tryd.checked) (X:=fun w _=>laidMetH Tryd.prog Rows.fnWordsRow.laid w) (fun _ _ _ hh h=>h.of_heap hh) own started (by kernel_rfl) Tryd.func3
  (ChangeSpec.witness_shaped (enc:=enc) (C:=Tryd.checked) (os:=os) (X:=fun w _=>laidMetH Tryd.prog Rows.fnWordsRow.laid w) false (World.doorLaid Tryd.prog 4000 os) #[.slice none 0 0,.slice none 0 0] 8 rfl (World.shaped_of_RefB (by kernel_rfl) (by kernel_rfl)) (by kernel_rfl) (by kernel_rfl) (by kernel_rfl) (door_met os _)) ?_
 intro W base args ds gs before hval0 hW _ _ hL _;have hval:∀(j:Nat) t v,Tryd.f3.params[j]? =some t->args[j]? =some v->Value.okWide Tryd.prog W .any base t v:=hval0;have hW':=hW;obtain⟨p,q,hA0,hV,rfl,hfz,hnd⟩:=hW;have hA:DataW.TrodAll enc Tryd.prog W 0 (fun _=>true) true Tryd.f3.params.toList args.toList ds p:=hA0;rw[Tryd.params3]at hA hval;obtain⟨v0,vs0,d0,ds0,p0,q0,hargs,rfl,rfl,h0,r0⟩:=trodAll_cons hA;obtain⟨v1,vs1,d1,ds1,p1,q1,rfl,rfl,rfl,h1,r1⟩:=trodAll_cons r0;obtain⟨rfl,rfl,rfl⟩:=trodAll_nil r1;obtain rfl:args= #[v0,v1]:=by cases args;simp_all
 have c0:=Go.Tr.one_cell Tryd.underlying22 (hval 0 22 v0 rfl rfl);have c1:=Go.Tr.one_cell Tryd.underlying22 (hval 1 22 v1 rfl rfl);obtain⟨f0,h0⟩:=h0;obtain⟨f1,h1⟩:=h1;rw[c0]at h0;rw[c1]at h1;obtain⟨A0,n0,k0,xs0,bs0,e0,l0,g0,t0⟩:=rJ Tryd.underlying22 Tryd.underlying5 (by kernel_rfl) h0;obtain⟨A1,n1,k1,xs1,bs1,e1,l1,g1,t1⟩:=rJ Tryd.underlying22 Tryd.underlying5 (by kernel_rfl) h1;obtain rfl:v0=.slice A0 n0 k0:=by simpa using e0
 obtain rfl:v1=.slice A1 n1 k1:=by simpa using e1
 subst l0;subst l1
 haveI:=gt_of hL
 clear hA0 hval0;refine((yO xs0 g0 xs1 g1).Eo (Dt t0 t1)).mono fun e W' ⟨he,hb⟩=> ?_
 subst he;exact⟨_,rfl,yP (tb:=4) (by kernel_rfl) (by kernel_rfl) hW' (by obtain⟨rfl,rfl⟩:=trodVars_none hV;rfl) rfl rfl Tryd.underlying4 hb⟩
theorem over:Rows.fnWordsRow.holds Tryd.pinned (OpenSpec.ofChange Rows.fnWordsSpec):=
 OpenClaim.holds_of_wide 3 Tryd.f3 rfl rfl rfl rfl rfl rfl rfl ⟨rfl,rfl,rfl,rfl,rfl⟩ rfl rfl rfl rfl rfl (by kernel_rfl) Tryd.func3 (by kernel_rfl)
  (of_decide_eq_true (by kernel_rfl)) (by unfold Func.isWrapper;first|(rw[if_pos (by decide+kernel)];kernel_rfl)|(rw[if_neg (by decide+kernel)];exact⟨rfl,rfl⟩))
  (fun os started H enc _=>lifted os started H enc)
theorem proved:Rows.FnWordsCardSaid:=
 Claim7.holds_tied_plain_at .later [] [.data, .data, .data, .sentinel, .sentinel] true (true, "10add9489851995712a9ba4438aaa4e081ab10fb73dc6e90967ed9f9b36e6118") true
  over (fun _ h=>by cases h) (by kernel_rfl) (fun _ h=>by cases h) fnWords_row_tie rfl ⟨rfl,rfl⟩ (by kernel_rfl) rfl
  (fun f fn hf hfn=>by
   obtain rfl : f = 3 := Option.some.inj ((show Tryd.prog.funcNamed "loop.example/g01074/laws.FnWords" = some 3 by kernel_rfl).symm.trans hf) |>.symm
   obtain rfl:fn=Tryd.f3:=(Option.some.inj (Tryd.func3.symm.trans hfn)).symm
   exact⟨by kernel_rfl,fun j t ht=>by
    rw[Tryd.params3]at ht
    have h3:t=22:=by
     rcases j with _|_|j
     .simpa using ht.symm
     .simpa using ht.symm
     .simp at ht
    subst h3;exact(show Tryd.prog.wantsStandIn 22=false by kernel_rfl)⟩)
  (by kernel_rfl)
#print axioms proved
end Go.Proofs.YtpdipfohnpopmaaDoor.fnWords
