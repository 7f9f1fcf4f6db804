/- The closed facts of the row of FnExactNewDebugger. -/
import Derived.Test.YtjpaeopdljfjpaaGreatRows
import Derived.JoinedOf
set_option linter.unusedSimpArgs false
set_option linter.unusedVariables false
namespace Go.Proofs.YtjpaeopdljfjpaaGreat.newDebugger_
open Go
theorem jC{a b:Bool}(h:a=true)(k:b=true):(a&&b)=true:=by rw[h,k];rfl
theorem cl0:(Rows.fnExactNewDebuggerRow.wf (OpenSpec.ofChange Rows.fnExactNewDebuggerSpec))=true:=by kernel_rfl
theorem cl1:(laidOutB Tryz.pinned.checked.prog)=true:=by kernel_rfl
theorem cl2:(mapsRowed Tryz.pinned.checked.prog)=true:=by kernel_rfl
theorem cl3:(Tryz.f3.params.all (Tryz.pinned.checked.prog.readableRec ·))=true:=by kernel_rfl
theorem cl4:(namedTie Tryz.pinned.checked.prog Rows.fnExactNewDebuggerRow.named Rows.fnExactNewDebuggerSpec.vars)=true:=by kernel_rfl
theorem cl5:((Rows.fnExactNewDebuggerRow.stops==[]))=true:=by kernel_rfl
theorem cl6:((Tryz.pinned.checked.prog.stops==[]))=true:=by kernel_rfl
theorem cl7:((Rows.fnExactNewDebuggerRow.knobs==[]))=true:=by kernel_rfl
theorem cl8:((Tryz.pinned.checked.prog.stopKnobs==[]))=true:=by kernel_rfl
theorem cl9:((Rows.fnExactNewDebuggerRow.inPlace==Tryz.pinned.checked.prog.inPlace 3))=true:=by kernel_rfl
theorem Rf:((Rows.fnExactNewDebuggerRow.unfollowed==Tryz.pinned.checked.prog.unfollowed 3))=true:=by kernel_rfl
theorem Rh:((Rows.fnExactNewDebuggerRow.recurses==Tryz.pinned.checked.prog.recurses 3))=true:=by kernel_rfl
theorem Ri:((Rows.fnExactNewDebuggerRow.named==Tryz.pinned.checked.prog.varsNamed 3))=true:=by kernel_rfl
theorem Rj:((Rows.fnExactNewDebuggerRow.maps==(Tryz.f3.params.toList++Rows.fnExactNewDebuggerSpec.plain.varTypes Tryz.pinned.checked.prog).any (Tryz.pinned.checked.prog.mapsRec ·)))=true:=by kernel_rfl
theorem Rk:((Rows.fnExactNewDebuggerRow.ifaces==(Tryz.f3.params.toList++Rows.fnExactNewDebuggerSpec.plain.varTypes Tryz.pinned.checked.prog).any (Tryz.pinned.checked.prog.ifacesRec ·)))=true:=by kernel_rfl
theorem Rl:((Rows.fnExactNewDebuggerRow.mapsOut==Tryz.pinned.checked.prog.mapsAmong Tryz.f3.resultTypes.toList))=true:=by kernel_rfl
theorem Rm:((Rows.fnExactNewDebuggerRow.loops==(Tryz.f3.params.toList++Rows.fnExactNewDebuggerSpec.plain.varTypes Tryz.pinned.checked.prog).any (Tryz.pinned.checked.prog.loopsFrom ·)))=true:=by kernel_rfl
theorem Rn:((Rows.fnExactNewDebuggerRow.wideKeys==(Tryz.f3.params.toList++Rows.fnExactNewDebuggerSpec.plain.varTypes Tryz.pinned.checked.prog++Tryz.f3.resultTypes.toList).any (Tryz.pinned.checked.prog.wideKeysFrom ·)))=true:=by kernel_rfl
theorem Ro:(Rows.fnExactNewDebuggerSpec.vars.all (Tryz.pinned.checked.prog.varReadable ·))=true:=by kernel_rfl
theorem Rp:(Tryz.f3.resultTypes.all (fun t=>Tryz.pinned.checked.prog.readableRec t&&decide (t<Tryz.pinned.checked.prog.types.size)))=true:=by kernel_rfl
theorem Rq:((Rows.fnExactNewDebuggerRow.ifacesOut==Tryz.f3.resultTypes.toList.any (Tryz.pinned.checked.prog.ifacesRec ·)))=true:=by kernel_rfl
theorem Rs:((Rows.fnExactNewDebuggerRow.loopsOut==Tryz.f3.resultTypes.toList.any (Tryz.pinned.checked.prog.loopsFrom ·)))=true:=by kernel_rfl
theorem Rt:((Rows.fnExactNewDebuggerRow.plainKeys==Tryz.pinned.checked.prog.plainKeys))=true:=by kernel_rfl
theorem Ru:(Rows.fnExactNewDebuggerRow.shortTexts.isNone)=true:=by kernel_rfl
theorem Rv:(Tryz.pinned.checked.prog.stopsHeard)=true:=by kernel_rfl
theorem Rw:(Tryz.pinned.checked.prog.mayEnter)=true:=by kernel_rfl
theorem Rx:((Rows.fnExactNewDebuggerRow.lifted==Tryz.pinned.checked.prog.liftsFinal))=true:=by kernel_rfl
theorem Ry:((Tryz.pinned.checked.prog.make==some Rows.fnExactNewDebuggerRow.make))=true:=by kernel_rfl
theorem Rz:((Rows.fnExactNewDebuggerRow.kinds==(if Rows.fnExactNewDebuggerRow.domain.isEmpty then[]else Tryz.f3.params.toList.map fun t=>match Tryz.pinned.checked.prog.underlying t with|some (.int k)=>some k|_=>none)))=true:=by kernel_rfl
theorem RA:((Rows.fnExactNewDebuggerRow.pinned==Rows.fnExactNewDebuggerRow.pinnedBy))=true:=by kernel_rfl
theorem RB:((Rows.fnExactNewDebuggerRow.veiled==(Tryz.f3.params.toList++Rows.fnExactNewDebuggerSpec.plain.varTypes Tryz.pinned.checked.prog++Tryz.f3.resultTypes.toList).any (Tryz.pinned.checked.prog.veiledRec ·)))=true:=by kernel_rfl
theorem RD:(Rows.fnExactNewDebuggerRow.veiledFits Tryz.pinned.checked.prog Tryz.f3.params.toList (Tryz.f3.params.toList++Rows.fnExactNewDebuggerSpec.plain.varTypes Tryz.pinned.checked.prog++Tryz.f3.resultTypes.toList))=true:=by kernel_rfl
set_option maxRecDepth 100000 in
theorem closed:joinedFacts Tryz.pinned.checked.prog 3 Tryz.f3 Rows.fnExactNewDebuggerSpec Rows.fnExactNewDebuggerRow=true:=
  (jC (jC (jC (jC (jC (jC (jC (jC (jC (jC (jC (jC (jC (jC (jC (jC (jC (jC (jC (jC (jC (jC (jC (jC (jC (jC (jC (jC (jC (jC (jC cl0 cl1) cl2) cl3) cl4) cl5) cl6) cl7) cl8) cl9) Rf) Rh) Ri) Rj) Rk) Rl) Rm) Rn) Ro) Rp) Rq) Rs) Rt) Ru) Rv) Rw) Rx) Ry) Rz) RA) RB) RD)
end Go.Proofs.YtjpaeopdljfjpaaGreat.newDebugger_
