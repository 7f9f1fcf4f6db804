
/- Wires of a net, walked: WiresOf and PeerOf of both sides. -/
import Derived.Test.YtdpclbjjmhkgiaaBi
import Derived.Test.YtdpclbjjmhkgiaaRa
set_option linter.unusedSimpArgs false
set_option linter.unusedVariables false
namespace Go.Proofs.Ytdpclbjjmhkgiaa
open Go Go.RowKit Go.Proofs Go.Tr
theorem OZ{xs:List ah}(h:jY xs):uQ xs:=by
 have:=h.l2;refine⟨by omega,fun i hi=> ?_⟩;have h1:eO (gA (ak xs (i:Nat)))=true:=h.wf i (by omega) (by omega);have h2:=(wE h1).2;simpa[gA]using h2
theorem Lr{xs:List ah}{j:Nat}(h:j<(bF xs).length):aj xs (elt (dflt aQ) (bF xs) ((j:Nat):Int)):=by
 rw[←xu];unfold elt;rw[show(((j:Nat):Int)).toNat=j by omega,List.getD_eq_getElem?_getD,List.getElem?_eq_getElem h];exact List.getElem_mem h
abbrev X4(c:Nat)(xs:List ah):Tok:=.bT c 25 [.rsl aV xs]
theorem Py{xs:List ah}(h:uQ xs):aC Try.prog 63 [.ptr 10000 0] [X4 10000 xs] (.sl 10001) [.row 10001 60 2 aQ (bF xs) [],X4 10000 xs]:=
 aC.Jo (r2:=.sl 10001) (ts2:=[.row 10001 60 2 aQ (bF xs) []]) aS [69] EU (Px xs h) rfl rfl rfl
theorem Pt{xs:List ah}{p:aB}(h:aj xs p):aC Try.prog 70 [.ptr 10000 0,vP p] [X4 10000 xs] (vP (aD xs p)) [X4 10000 xs]:=
 aC.Cg aS [69,0] Po (Xl xs p h) rfl
end Go.Proofs.Ytdpclbjjmhkgiaa
