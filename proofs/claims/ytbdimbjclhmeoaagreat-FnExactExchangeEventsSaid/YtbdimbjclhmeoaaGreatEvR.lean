
/- What functions that give events answer. -/
import Derived.Test.YtbdimbjclhmeoaaGreatShort
import Derived.Test.YtbdimbjclhmeoaaGreatRh
import Derived.Test.YtbdimbjclhmeoaaGreatKEv
import Derived.Test.YtbdimbjclhmeoaaGreatVV
import Derived.Test.YtbdimbjclhmeoaaGreatVti
set_option linter.unusedSimpArgs false
set_option linter.unusedVariables false
namespace Go.Tr
open Go Go.RowKit
theorem PI{xs:List aB}(h:xs.length≤1000):cN ((xs.map VG).flatMap aK.enc)≤1099511627776:=by
 have:∀ys:List aK,cN (ys.flatMap aK.enc)=5*ys.length:=fun ys=>by
  induction ys with
  |nil=>rfl
  |cons y l ih=>
   rw[qU,dM,ih,qI];have:cN y.enc=5:=rfl;omega
 rw[this,qV];omega
end Go.Tr
namespace Go.Proofs.YtbdimbjclhmeoaaGreat
open Go Go.RowKit Go.Proofs Go.Tr
def Jb(f:Nat)(args:List SV)(es:List aB)(c:Int):Prop:=
 (es=[]∧aA Tryz.prog f args [] (.tup [.raw (.slice none 0 0),.int .i64 c]) [])∨aA Tryz.prog f args [] (.tup [.sl 10000,.int .i64 c]) [.row 10000 67 5 aP es []]
theorem NR{f:Nat}{args:List SV}{es:List aB}{c:Int}{vs:List Value}{w:World}(h:Jb f args es c)(hd:∀β,aH ⟨w,[]⟩ β args vs):
  Calls Tryz.prog f vs.toArray w fun e w'=>∃(B0:Option Addr) (d0:Nat) (q0:List Nat),e=.returned (.tuple #[.slice B0 (es.map VG).length d0,.int .i64 c])∧Ext w w'∧T1 w' (.sl (es.map VG).length ((es.map VG).flatMap aK.enc)) q0 (.slice B0 (es.map VG).length d0)∧Own w.heap.size w' (q0):=by
 rcases h with⟨rfl,h⟩|h
 ·refine(h.2 ⟨w,[]⟩ (fun _=>undef) w [] vs (Inv.AQ w) (hd _)).mono ?_;rintro e w' ⟨v',β',rfl,_,h1,h2⟩;unfold Den at h1;obtain⟨us,rfl,h1⟩:=h1;unfold aH at h1;obtain⟨y1,us1,rfl,k1,h1⟩:=h1;unfold aH at h1;obtain⟨y2,us2,rfl,k2,h1⟩:=h1;unfold aH at h1;subst h1;unfold Den at k1 k2;subst k2;obtain⟨rfl,_⟩:=k1;exact⟨none,0,[],rfl,h2.Ep,T1.empty none,Own.nil _ _⟩
 ·refine(h.2 ⟨w,[]⟩ (fun _=>undef) w [] vs (Inv.AQ w) (hd _)).mono ?_;rintro e w' ⟨v',β',rfl,_,h1,h2⟩;have hI':Inv (Cx.mk w []).w0 [] w' [Tok.res ⟨w,[]⟩ β' (.row 10000 67 5 aP es [])]:=by simpa using h2
  obtain⟨A,c',q,r1,r2,r3⟩:=hI'.Zak;unfold Den at h1;obtain⟨us,rfl,h1⟩:=h1;unfold aH at h1;obtain⟨y1,us1,rfl,k1,h1⟩:=h1;unfold aH at h1;obtain⟨y2,us2,rfl,k2,h1⟩:=h1;unfold aH at h1;subst h1;unfold Den at k1 k2;obtain⟨rfl,_⟩:=k1;subst k2;rw[RQ,qV,r1];exact⟨A,c',q,rfl,h2.Ep,r2,r3⟩
end Go.Proofs.YtbdimbjclhmeoaaGreat
