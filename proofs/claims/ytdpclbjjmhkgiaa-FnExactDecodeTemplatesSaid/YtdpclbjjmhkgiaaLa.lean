
/- Draws out of bytes: the source of the laws. -/
import Derived.Test.YtdpclbjjmhkgiaaWb
import Derived.Test.YtdpclbjjmhkgiaaVti
import Derived.Test.YtdpclbjjmhkgiaaValid
set_option linter.unusedSimpArgs false
set_option linter.unusedVariables false
namespace Go.Tr
open Go Go.RowKit
structure DS where
 k:Nat
 s:Int
def Tp(s b:Int):Int:=IntKind.u64.wrap (IntKind.u64.wrap (IntKind.u64.wrap (s*6364136223846793005)+IntKind.u64.wrap b)+1442695040888963407)
def NQ(code:List Int)(k:Nat):Int:=bif decide ((k:Int)<(code.length:Nat))then IntKind.i64.wrap (elt 0 code (k:Nat))else 0
def XJ(s:Int):Int:=IntKind.i64.wrap (bits .and .u64 (s.fdiv (2 ^ (min (40:Int).toNat IntKind.u64.bits))) 255)
def nx(code:List Int)(d:DS):Int×DS:=
 (bif decide (((d.k+1:Nat):Int)≤(code.length:Nat))then NQ code d.k else XJ (Tp d.s (NQ code d.k)),⟨d.k+1,Tp d.s (NQ code d.k)⟩)
abbrev bn:U:=.int .u8
end Go.Tr
namespace Go.Proofs.Ytdpclbjjmhkgiaa
open Go Go.RowKit Go.Proofs Go.Tr
section
variable (code:List Int)(d:DS)
end
end Go.Proofs.Ytdpclbjjmhkgiaa
