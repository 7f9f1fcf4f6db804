/- The closed facts of the row of FnExactDecodeTemplates. -/
import Derived.Test.YtdpclbjjmhkgiaaRows
import Derived.JoinedOf
set_option linter.unusedSimpArgs false
set_option linter.unusedVariables false
namespace Go.Proofs.Ytdpclbjjmhkgiaa.decodeTemplates_
open Go
theorem dW{a b:Bool}(h:a=true)(k:b=true):(a&&b)=true:=by rw[h,k];rfl
theorem Yb:(Rows.fnExactDecodeTemplatesRow.wf (OpenSpec.ofChange Rows.fnExactDecodeTemplatesSpec))=true:=by kernel_rfl
theorem Yc:(laidOutB Try.pinned.checked.prog)=true:=by kernel_rfl
theorem Yd:(mapsRowed Try.pinned.checked.prog)=true:=by kernel_rfl
theorem Ye:(Try.f4.params.all (Try.pinned.checked.prog.readableRec ·))=true:=by kernel_rfl
theorem Yf:(namedTie Try.pinned.checked.prog Rows.fnExactDecodeTemplatesRow.named Rows.fnExactDecodeTemplatesSpec.vars)=true:=by kernel_rfl
theorem Yg:((Rows.fnExactDecodeTemplatesRow.stops==[]))=true:=by kernel_rfl
theorem Yh:((Try.pinned.checked.prog.stops==[]))=true:=by kernel_rfl
theorem Yi:((Rows.fnExactDecodeTemplatesRow.knobs==[]))=true:=by kernel_rfl
theorem Yj:((Try.pinned.checked.prog.stopKnobs==[]))=true:=by kernel_rfl
theorem Yk:((Rows.fnExactDecodeTemplatesRow.inPlace==Try.pinned.checked.prog.inPlace 4))=true:=by kernel_rfl
theorem Uq:((Rows.fnExactDecodeTemplatesRow.unfollowed==Try.pinned.checked.prog.unfollowed 4))=true:=by kernel_rfl
theorem Ur:((Rows.fnExactDecodeTemplatesRow.recurses==Try.pinned.checked.prog.recurses 4))=true:=by kernel_rfl
theorem Us:((Rows.fnExactDecodeTemplatesRow.named==Try.pinned.checked.prog.varsNamed 4))=true:=by kernel_rfl
theorem Ut:((Rows.fnExactDecodeTemplatesRow.maps==(Try.f4.params.toList++Rows.fnExactDecodeTemplatesSpec.plain.varTypes Try.pinned.checked.prog).any (Try.pinned.checked.prog.mapsRec ·)))=true:=by kernel_rfl
theorem Uu:((Rows.fnExactDecodeTemplatesRow.ifaces==(Try.f4.params.toList++Rows.fnExactDecodeTemplatesSpec.plain.varTypes Try.pinned.checked.prog).any (Try.pinned.checked.prog.ifacesRec ·)))=true:=by kernel_rfl
theorem Uv:((Rows.fnExactDecodeTemplatesRow.mapsOut==Try.pinned.checked.prog.mapsAmong Try.f4.resultTypes.toList))=true:=by kernel_rfl
theorem Uw:((Rows.fnExactDecodeTemplatesRow.loops==(Try.f4.params.toList++Rows.fnExactDecodeTemplatesSpec.plain.varTypes Try.pinned.checked.prog).any (Try.pinned.checked.prog.loopsFrom ·)))=true:=by kernel_rfl
theorem Ux:((Rows.fnExactDecodeTemplatesRow.wideKeys==(Try.f4.params.toList++Rows.fnExactDecodeTemplatesSpec.plain.varTypes Try.pinned.checked.prog++Try.f4.resultTypes.toList).any (Try.pinned.checked.prog.wideKeysFrom ·)))=true:=by kernel_rfl
theorem Uy:(Rows.fnExactDecodeTemplatesSpec.vars.all (Try.pinned.checked.prog.varReadable ·))=true:=by kernel_rfl
theorem Uz:(Try.f4.resultTypes.all (fun t=>Try.pinned.checked.prog.readableRec t&&decide (t<Try.pinned.checked.prog.types.size)))=true:=by kernel_rfl
theorem UA:((Rows.fnExactDecodeTemplatesRow.ifacesOut==Try.f4.resultTypes.toList.any (Try.pinned.checked.prog.ifacesRec ·)))=true:=by kernel_rfl
theorem UC:((Rows.fnExactDecodeTemplatesRow.loopsOut==Try.f4.resultTypes.toList.any (Try.pinned.checked.prog.loopsFrom ·)))=true:=by kernel_rfl
theorem UD:((Rows.fnExactDecodeTemplatesRow.plainKeys==Try.pinned.checked.prog.plainKeys))=true:=by kernel_rfl
theorem UF:(Rows.fnExactDecodeTemplatesRow.shortTexts.isNone)=true:=by kernel_rfl
theorem UG:(Try.pinned.checked.prog.stopsHeard)=true:=by kernel_rfl
theorem UH:(Try.pinned.checked.prog.mayEnter)=true:=by kernel_rfl
theorem UJ:((Rows.fnExactDecodeTemplatesRow.lifted==Try.pinned.checked.prog.liftsFinal))=true:=by kernel_rfl
theorem UK:((Try.pinned.checked.prog.make==some Rows.fnExactDecodeTemplatesRow.make))=true:=by kernel_rfl
theorem UL:((Rows.fnExactDecodeTemplatesRow.kinds==(if Rows.fnExactDecodeTemplatesRow.domain.isEmpty then[]else Try.f4.params.toList.map fun t=>match Try.pinned.checked.prog.underlying t with|some (.int k)=>some k|_=>none)))=true:=by kernel_rfl
theorem UM:((Rows.fnExactDecodeTemplatesRow.pinned==Rows.fnExactDecodeTemplatesRow.pinnedBy))=true:=by kernel_rfl
theorem UN:((Rows.fnExactDecodeTemplatesRow.veiled==(Try.f4.params.toList++Rows.fnExactDecodeTemplatesSpec.plain.varTypes Try.pinned.checked.prog++Try.f4.resultTypes.toList).any (Try.pinned.checked.prog.veiledRec ·)))=true:=by kernel_rfl
theorem UO:(Rows.fnExactDecodeTemplatesRow.veiledFits Try.pinned.checked.prog Try.f4.params.toList (Try.f4.params.toList++Rows.fnExactDecodeTemplatesSpec.plain.varTypes Try.pinned.checked.prog++Try.f4.resultTypes.toList))=true:=by kernel_rfl
set_option maxRecDepth 100000 in
theorem closed:joinedFacts Try.pinned.checked.prog 4 Try.f4 Rows.fnExactDecodeTemplatesSpec Rows.fnExactDecodeTemplatesRow=true:=
  (dW (dW (dW (dW (dW (dW (dW (dW (dW (dW (dW (dW (dW (dW (dW (dW (dW (dW (dW (dW (dW (dW (dW (dW (dW (dW (dW (dW (dW (dW (dW Yb Yc) Yd) Ye) Yf) Yg) Yh) Yi) Yj) Yk) Uq) Ur) Us) Ut) Uu) Uv) Uw) Ux) Uy) Uz) UA) UC) UD) UF) UG) UH) UJ) UK) UL) UM) UN) UO)
end Go.Proofs.Ytdpclbjjmhkgiaa.decodeTemplates_
