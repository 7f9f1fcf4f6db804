
/- The wires of a net: half as many as ports; what a shuffle of them keeps. No program in it. -/
import Derived.Test.YtdpclbjjmhkgiaaBf
set_option linter.unusedSimpArgs false
set_option linter.unusedVariables false
set_option linter.unusedSectionVars false
namespace Go.Tr
open Go Go.RowKit Go.Proofs
def jq(p q:aB):Bool:=decide (p.1<q.1)||(p.1==q.1&&decide (p.2<q.2))
theorem rW{p q:aB}:jq p q=true↔p.1<q.1∨(p.1=q.1∧p.2<q.2):=by
 unfold jq;simp only[Bool.or_eq_true,Bool.and_eq_true,decide_eq_true_eq,beq_iff_eq]
def bF(xs:List ah):List aB:=sG (fun _=>false) xs xs.length
theorem xu(xs:List ah)(p:aB):p∈bF xs↔aj xs p:=by
 unfold bF;rw[Ec];unfold aj;simp
theorem Ef(i k:Nat)(S:List aB):zK (fun _=>false) i (k+1) S=zK (fun _=>false) i k S++[(((i:Nat):Int),((k:Nat):Int))]:=by
 simp[zK]
abbrev SC:=aB×aB
section
variable {xs:List ah}(h:fE (fun p=>aj xs p) xs)
include h
end
structure WOk(xs:List ah)(m:List SC):Prop where
 ok:∀i:Nat,i<m.length→aj xs (m.getD i ((0,0),(0,0))).1∧(m.getD i ((0,0),(0,0))).2=aD xs (m.getD i ((0,0),(0,0))).1
 ap:∀i j:Nat,i<m.length→j<m.length→i≠j→(m.getD i ((0,0),(0,0))).1≠(m.getD j ((0,0),(0,0))).1∧(m.getD i ((0,0),(0,0))).1≠(m.getD j ((0,0),(0,0))).2
end Go.Tr
