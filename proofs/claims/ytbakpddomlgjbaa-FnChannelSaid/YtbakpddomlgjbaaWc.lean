
/- Rows of a result that are data for ever, beside things that stay. -/
import Derived.Test.YtbakpddomlgjbaaWb
set_option linter.unusedSimpArgs false
set_option linter.unusedVariables false
namespace Go.Tr
open Go Go.RowKit
variable {P:Program}
theorem bI.fzT{f:Nat}{args:List SV}{ts ts1 ts2:List Tok}{r1 r:SV}(h:bI P f args ts r1 (ts1++ts2))(hf:OT true ts2 r1 fun r'=>r'=r):bI P f args ts r ts1:=by
 refine⟨h.1,fun cx β w fr vs hI hd=>(h.2 cx β w fr vs hI hd).mono fun _ w' ⟨v,cx',β',h1,hl,h2,h3,h4⟩=> ?_⟩
 have h4':Inv cx'.w0 cx'.F0 w' (ts2.map (Tok.res cx' β')++(ts1.map (Tok.res cx' β')++fr)):=h4.perm (by
  rw[qZ,<-qF];exact List.perm_append_comm.append_right fr)
 obtain⟨G0,hs,hG0⟩:=h4'.sep;obtain⟨G1,G,rfl,k1,k2,k3⟩:=Sep.append.1 hs;have h5:Inv cx'.w0 cx'.F0 w' (ts1.map (Tok.res cx' β')++fr):=Inv.xD h4';obtain⟨hl2,hI2⟩:=Inv.base h5 k2 fun b hb=>hG0 b (List.mem_append_right _ hb)
 obtain⟨r',rfl,k5⟩:=BH (G:=G) k1 k3 (fun _=>hl2) hf h3;exact⟨v,⟨w',G⟩,β',h1,hl.trans hl2,h2,k5,Inv.le hl2 hI2⟩
end Go.Tr
