/- The closed facts of the row of FnExactPoolNet. -/
import Derived.Test.YtgiceoidjipgmaaGreatRows
import Derived.JoinedOf
set_option linter.unusedSimpArgs false
set_option linter.unusedVariables false
namespace Go.Proofs.YtgiceoidjipgmaaGreat.poolNet_
open Go
theorem ji{a b:Bool}(h:a=true)(k:b=true):(a&&b)=true:=by rw[h,k];rfl
theorem cl0:(Rows.fnExactPoolNetRow.wf (OpenSpec.ofChange Rows.fnExactPoolNetSpec))=true:=by kernel_rfl
theorem cl1:(laidOutB Tryz.pinned.checked.prog)=true:=by kernel_rfl
theorem cl2:(mapsRowed Tryz.pinned.checked.prog)=true:=by kernel_rfl
theorem cl3:(Tryz.f3.params.all (Tryz.pinned.checked.prog.readableRec ·))=true:=by kernel_rfl
theorem cl4:(namedTie Tryz.pinned.checked.prog Rows.fnExactPoolNetRow.named Rows.fnExactPoolNetSpec.vars)=true:=by kernel_rfl
theorem cl5:((Rows.fnExactPoolNetRow.stops==[]))=true:=by kernel_rfl
theorem cl6:((Tryz.pinned.checked.prog.stops==[]))=true:=by kernel_rfl
theorem cl7:((Rows.fnExactPoolNetRow.knobs==[]))=true:=by kernel_rfl
theorem cl8:((Tryz.pinned.checked.prog.stopKnobs==[]))=true:=by kernel_rfl
theorem cl9:((Rows.fnExactPoolNetRow.inPlace==Tryz.pinned.checked.prog.inPlace 3))=true:=by kernel_rfl
theorem OI:((Rows.fnExactPoolNetRow.unfollowed==Tryz.pinned.checked.prog.unfollowed 3))=true:=by kernel_rfl
theorem OJ:((Rows.fnExactPoolNetRow.recurses==Tryz.pinned.checked.prog.recurses 3))=true:=by kernel_rfl
theorem OL:((Rows.fnExactPoolNetRow.named==Tryz.pinned.checked.prog.varsNamed 3))=true:=by kernel_rfl
theorem OM:((Rows.fnExactPoolNetRow.maps==(Tryz.f3.params.toList++Rows.fnExactPoolNetSpec.plain.varTypes Tryz.pinned.checked.prog).any (Tryz.pinned.checked.prog.mapsRec ·)))=true:=by kernel_rfl
theorem OO:((Rows.fnExactPoolNetRow.ifaces==(Tryz.f3.params.toList++Rows.fnExactPoolNetSpec.plain.varTypes Tryz.pinned.checked.prog).any (Tryz.pinned.checked.prog.ifacesRec ·)))=true:=by kernel_rfl
theorem OP:((Rows.fnExactPoolNetRow.mapsOut==Tryz.pinned.checked.prog.mapsAmong Tryz.f3.resultTypes.toList))=true:=by kernel_rfl
theorem OQ:((Rows.fnExactPoolNetRow.loops==(Tryz.f3.params.toList++Rows.fnExactPoolNetSpec.plain.varTypes Tryz.pinned.checked.prog).any (Tryz.pinned.checked.prog.loopsFrom ·)))=true:=by kernel_rfl
theorem OT:((Rows.fnExactPoolNetRow.wideKeys==(Tryz.f3.params.toList++Rows.fnExactPoolNetSpec.plain.varTypes Tryz.pinned.checked.prog++Tryz.f3.resultTypes.toList).any (Tryz.pinned.checked.prog.wideKeysFrom ·)))=true:=by kernel_rfl
theorem OU:(Rows.fnExactPoolNetSpec.vars.all (Tryz.pinned.checked.prog.varReadable ·))=true:=by kernel_rfl
theorem OV:(Tryz.f3.resultTypes.all (fun t=>Tryz.pinned.checked.prog.readableRec t&&decide (t<Tryz.pinned.checked.prog.types.size)))=true:=by kernel_rfl
theorem OW:((Rows.fnExactPoolNetRow.ifacesOut==Tryz.f3.resultTypes.toList.any (Tryz.pinned.checked.prog.ifacesRec ·)))=true:=by kernel_rfl
theorem OX:((Rows.fnExactPoolNetRow.loopsOut==Tryz.f3.resultTypes.toList.any (Tryz.pinned.checked.prog.loopsFrom ·)))=true:=by kernel_rfl
theorem OY:((Rows.fnExactPoolNetRow.plainKeys==Tryz.pinned.checked.prog.plainKeys))=true:=by kernel_rfl
theorem OZ:(Rows.fnExactPoolNetRow.shortTexts.isNone)=true:=by kernel_rfl
theorem O1:(Tryz.pinned.checked.prog.stopsHeard)=true:=by kernel_rfl
theorem O6:(Tryz.pinned.checked.prog.mayEnter)=true:=by kernel_rfl
theorem O8:((Rows.fnExactPoolNetRow.lifted==Tryz.pinned.checked.prog.liftsFinal))=true:=by kernel_rfl
theorem O9:((Tryz.pinned.checked.prog.make==some Rows.fnExactPoolNetRow.make))=true:=by kernel_rfl
theorem Pb:((Rows.fnExactPoolNetRow.kinds==(if Rows.fnExactPoolNetRow.domain.isEmpty then[]else Tryz.f3.params.toList.map fun t=>match Tryz.pinned.checked.prog.underlying t with|some (.int k)=>some k|_=>none)))=true:=by kernel_rfl
theorem Pf:((Rows.fnExactPoolNetRow.pinned==Rows.fnExactPoolNetRow.pinnedBy))=true:=by kernel_rfl
theorem Pg:((Rows.fnExactPoolNetRow.veiled==(Tryz.f3.params.toList++Rows.fnExactPoolNetSpec.plain.varTypes Tryz.pinned.checked.prog++Tryz.f3.resultTypes.toList).any (Tryz.pinned.checked.prog.veiledRec ·)))=true:=by kernel_rfl
theorem Ph:(Rows.fnExactPoolNetRow.veiledFits Tryz.pinned.checked.prog Tryz.f3.params.toList (Tryz.f3.params.toList++Rows.fnExactPoolNetSpec.plain.varTypes Tryz.pinned.checked.prog++Tryz.f3.resultTypes.toList))=true:=by kernel_rfl
set_option maxRecDepth 100000 in
theorem closed:joinedFacts Tryz.pinned.checked.prog 3 Tryz.f3 Rows.fnExactPoolNetSpec Rows.fnExactPoolNetRow=true:=
  (ji (ji (ji (ji (ji (ji (ji (ji (ji (ji (ji (ji (ji (ji (ji (ji (ji (ji (ji (ji (ji (ji (ji (ji (ji (ji (ji (ji (ji (ji (ji cl0 cl1) cl2) cl3) cl4) cl5) cl6) cl7) cl8) cl9) OI) OJ) OL) OM) OO) OP) OQ) OT) OU) OV) OW) OX) OY) OZ) O1) O6) O8) O9) Pb) Pf) Pg) Ph)
end Go.Proofs.YtgiceoidjipgmaaGreat.poolNet_
