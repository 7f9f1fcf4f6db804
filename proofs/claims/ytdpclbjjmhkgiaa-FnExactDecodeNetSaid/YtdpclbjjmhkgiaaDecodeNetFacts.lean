/- The closed facts of the row of FnExactDecodeNet. -/
import Derived.Test.YtdpclbjjmhkgiaaRows
import Derived.JoinedOf
set_option linter.unusedSimpArgs false
set_option linter.unusedVariables false
namespace Go.Proofs.Ytdpclbjjmhkgiaa.decodeNet_
open Go
theorem dW{a b:Bool}(h:a=true)(k:b=true):(a&&b)=true:=by rw[h,k];rfl
theorem Yb:(Rows.fnExactDecodeNetRow.wf (OpenSpec.ofChange Rows.fnExactDecodeNetSpec))=true:=by kernel_rfl
theorem Yc:(laidOutB Try.pinned.checked.prog)=true:=by kernel_rfl
theorem Yd:(mapsRowed Try.pinned.checked.prog)=true:=by kernel_rfl
theorem Ye:(Try.f3.params.all (Try.pinned.checked.prog.readableRec ·))=true:=by kernel_rfl
theorem Yf:(namedTie Try.pinned.checked.prog Rows.fnExactDecodeNetRow.named Rows.fnExactDecodeNetSpec.vars)=true:=by kernel_rfl
theorem Yg:((Rows.fnExactDecodeNetRow.stops==[]))=true:=by kernel_rfl
theorem Yh:((Try.pinned.checked.prog.stops==[]))=true:=by kernel_rfl
theorem Yi:((Rows.fnExactDecodeNetRow.knobs==[]))=true:=by kernel_rfl
theorem Yj:((Try.pinned.checked.prog.stopKnobs==[]))=true:=by kernel_rfl
theorem Yk:((Rows.fnExactDecodeNetRow.inPlace==Try.pinned.checked.prog.inPlace 3))=true:=by kernel_rfl
theorem Uq:((Rows.fnExactDecodeNetRow.unfollowed==Try.pinned.checked.prog.unfollowed 3))=true:=by kernel_rfl
theorem Ur:((Rows.fnExactDecodeNetRow.recurses==Try.pinned.checked.prog.recurses 3))=true:=by kernel_rfl
theorem Us:((Rows.fnExactDecodeNetRow.named==Try.pinned.checked.prog.varsNamed 3))=true:=by kernel_rfl
theorem Ut:((Rows.fnExactDecodeNetRow.maps==(Try.f3.params.toList++Rows.fnExactDecodeNetSpec.plain.varTypes Try.pinned.checked.prog).any (Try.pinned.checked.prog.mapsRec ·)))=true:=by kernel_rfl
theorem Uu:((Rows.fnExactDecodeNetRow.ifaces==(Try.f3.params.toList++Rows.fnExactDecodeNetSpec.plain.varTypes Try.pinned.checked.prog).any (Try.pinned.checked.prog.ifacesRec ·)))=true:=by kernel_rfl
theorem Uv:((Rows.fnExactDecodeNetRow.mapsOut==Try.pinned.checked.prog.mapsAmong Try.f3.resultTypes.toList))=true:=by kernel_rfl
theorem Uw:((Rows.fnExactDecodeNetRow.loops==(Try.f3.params.toList++Rows.fnExactDecodeNetSpec.plain.varTypes Try.pinned.checked.prog).any (Try.pinned.checked.prog.loopsFrom ·)))=true:=by kernel_rfl
theorem Ux:((Rows.fnExactDecodeNetRow.wideKeys==(Try.f3.params.toList++Rows.fnExactDecodeNetSpec.plain.varTypes Try.pinned.checked.prog++Try.f3.resultTypes.toList).any (Try.pinned.checked.prog.wideKeysFrom ·)))=true:=by kernel_rfl
theorem Uy:(Rows.fnExactDecodeNetSpec.vars.all (Try.pinned.checked.prog.varReadable ·))=true:=by kernel_rfl
theorem Uz:(Try.f3.resultTypes.all (fun t=>Try.pinned.checked.prog.readableRec t&&decide (t<Try.pinned.checked.prog.types.size)))=true:=by kernel_rfl
theorem UA:((Rows.fnExactDecodeNetRow.ifacesOut==Try.f3.resultTypes.toList.any (Try.pinned.checked.prog.ifacesRec ·)))=true:=by kernel_rfl
theorem UC:((Rows.fnExactDecodeNetRow.loopsOut==Try.f3.resultTypes.toList.any (Try.pinned.checked.prog.loopsFrom ·)))=true:=by kernel_rfl
theorem UD:((Rows.fnExactDecodeNetRow.plainKeys==Try.pinned.checked.prog.plainKeys))=true:=by kernel_rfl
theorem UF:(Rows.fnExactDecodeNetRow.shortTexts.isNone)=true:=by kernel_rfl
theorem UG:(Try.pinned.checked.prog.stopsHeard)=true:=by kernel_rfl
theorem UH:(Try.pinned.checked.prog.mayEnter)=true:=by kernel_rfl
theorem UJ:((Rows.fnExactDecodeNetRow.lifted==Try.pinned.checked.prog.liftsFinal))=true:=by kernel_rfl
theorem UK:((Try.pinned.checked.prog.make==some Rows.fnExactDecodeNetRow.make))=true:=by kernel_rfl
theorem UL:((Rows.fnExactDecodeNetRow.kinds==(if Rows.fnExactDecodeNetRow.domain.isEmpty then[]else Try.f3.params.toList.map fun t=>match Try.pinned.checked.prog.underlying t with|some (.int k)=>some k|_=>none)))=true:=by kernel_rfl
theorem UM:((Rows.fnExactDecodeNetRow.pinned==Rows.fnExactDecodeNetRow.pinnedBy))=true:=by kernel_rfl
theorem UN:((Rows.fnExactDecodeNetRow.veiled==(Try.f3.params.toList++Rows.fnExactDecodeNetSpec.plain.varTypes Try.pinned.checked.prog++Try.f3.resultTypes.toList).any (Try.pinned.checked.prog.veiledRec ·)))=true:=by kernel_rfl
theorem UO:(Rows.fnExactDecodeNetRow.veiledFits Try.pinned.checked.prog Try.f3.params.toList (Try.f3.params.toList++Rows.fnExactDecodeNetSpec.plain.varTypes Try.pinned.checked.prog++Try.f3.resultTypes.toList))=true:=by kernel_rfl
set_option maxRecDepth 100000 in
theorem closed:joinedFacts Try.pinned.checked.prog 3 Try.f3 Rows.fnExactDecodeNetSpec Rows.fnExactDecodeNetRow=true:=
  (dW (dW (dW (dW (dW (dW (dW (dW (dW (dW (dW (dW (dW (dW (dW (dW (dW (dW (dW (dW (dW (dW (dW (dW (dW (dW (dW (dW (dW (dW (dW Yb Yc) Yd) Ye) Yf) Yg) Yh) Yi) Yj) Yk) Uq) Ur) Us) Ut) Uu) Uv) Uw) Ux) Uy) Uz) UA) UC) UD) UF) UG) UH) UJ) UK) UL) UM) UN) UO)
end Go.Proofs.Ytdpclbjjmhkgiaa.decodeNet_
