
/- What the laws number and look for again in these types. Printed by gen_mk.py. -/
import Derived.Test.YtjijpkphkicoeaaGreatProg
import Derived.Test.YtjijpkphkicoeaaGreatSc
import Derived.Test.YtjijpkphkicoeaaGreatRh
import Derived.BigGuardPart
import Derived.Outline
import Derived.Deep.CutBlock
set_option linter.unusedSimpArgs false
set_option linter.unusedVariables false
namespace Go.Tr
open Go Go.RowKit
theorem gM.EG(x:gM):cN x.enc≤32*(1+(fun _=>0) x):=by
 have hc:cN x.enc=1+1+1+1+1:=by show cN [.v (.int .i64 x.a),.v (.int .i64 x.b),.v (.int .i64 x.class_),.v (.int .i64 x.first_),.v (.int .i64 x.count)]=_;simp only[gI,oQ,kM,fT]<;>omega
 omega
end Go.Tr
namespace Go.Proofs.YtjijpkphkicoeaaGreat
open Go Go.RowKit Go.Proofs Go.Tr
end Go.Proofs.YtjijpkphkicoeaaGreat
