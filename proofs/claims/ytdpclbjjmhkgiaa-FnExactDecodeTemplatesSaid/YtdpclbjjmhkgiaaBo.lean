
/- The exchange of two ports' peers: what it changes, and that it undoes itself. No program in it. -/
import Derived.Test.YtdpclbjjmhkgiaaBj
import Derived.Test.YtdpclbjjmhkgiaaNw
set_option linter.unusedSimpArgs false
set_option linter.unusedVariables false
set_option linter.unusedSectionVars false
namespace Go.Tr
open Go Go.RowKit Go.Proofs
theorem RD{xs ys:List ah}(h:bH xs ys)(hp:∀p,aj xs p→aD xs p=aD ys p):xs=ys:=by
 refine List.ext_getElem h.1 fun i h1 h2=> ?_
 have hs:=h.2 (i:Nat) (by omega) (by omega)
 have e1:ak xs ((i:Nat):Int)=xs[i]:=by
  unfold ak elt;rw[show(((i:Nat):Int)).toNat=i by omega,List.getD_eq_getElem?_getD,List.getElem?_eq_getElem h1];rfl
 have e2:ak ys ((i:Nat):Int)=ys[i]:=by
  unfold ak elt;rw[show(((i:Nat):Int)).toNat=i by omega,List.getD_eq_getElem?_getD,List.getElem?_eq_getElem h2];rfl
 have hl:(ak xs ((i:Nat):Int)).2.2.2.2.length=(ak ys ((i:Nat):Int)).2.2.2.2.length:=congrArg (fun s=>s.2.2.2.2) hs
 have hpp:(ak xs ((i:Nat):Int)).2.2.2.2=(ak ys ((i:Nat):Int)).2.2.2.2:=by
  refine List.ext_getElem hl fun k k1 k2=> ?_
  have:=hp (((i:Nat):Int),((k:Nat):Int)) ⟨by show(0:Int)≤_;omega,by show((i:Nat):Int)<_;omega,by show(0:Int)≤((k:Nat):Int);omega,by show((k:Nat):Int)<((ak xs ((i:Nat):Int)).2.2.2.2.length:Nat);omega⟩;unfold aD elt at this;rw[show(((k:Nat):Int)).toNat=k by omega,List.getD_eq_getElem?_getD,List.getD_eq_getElem?_getD]at this;have this:((ak xs ((i:Nat):Int)).2.2.2.2[k]?).getD (dflt aQ)=((ak ys ((i:Nat):Int)).2.2.2.2[k]?).getD (dflt aQ):=this;rw[List.getElem?_eq_getElem k1,List.getElem?_eq_getElem k2]at this
  exact this
 rw[←e1,←e2];exact Prod.ext (congrArg (fun s=>s.1) hs) (Prod.ext (congrArg (fun s=>s.2.1) hs) (Prod.ext (congrArg (fun s=>s.2.2.1) hs) (Prod.ext (congrArg (fun s=>s.2.2.2.1) hs) hpp)))
theorem P8{xs ys zs:List ah}(h:bH xs ys)(k:bH ys zs):bH xs zs:=⟨h.1.trans k.1,fun i h0 h1=>(h.2 i h0 h1).trans (k.2 i h0 (by rw[←h.1];exact h1))⟩
section
variable {xs:List ah}(h:fE (fun p=>aj xs p) xs){p q:aB}(hp:aj xs p)(hq:aj xs q)(hpq:p≠q)(hx:aD xs p≠q)
include h hp hq hpq hx
end
end Go.Tr
