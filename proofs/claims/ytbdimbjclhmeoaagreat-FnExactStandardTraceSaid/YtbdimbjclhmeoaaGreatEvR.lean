
/- What functions that give events answer. -/
import Derived.Test.YtbdimbjclhmeoaaGreatKEv
set_option linter.unusedSimpArgs false
set_option linter.unusedVariables false
namespace Go.Tr
open Go Go.RowKit
theorem QJ{xs:List aB}(h:xs.length<=1000):cN ((xs.map Xd).flatMap aM.enc)<=1099511627776:=by
 have:∀ys:List aM,cN (ys.flatMap aM.enc)=5*ys.length:=fun ys=>by
  induction ys with
  |nil=>rfl
  |cons y l ih=>
   rw[qU,dh,ih,qI];have:cN y.enc=5:=rfl;omega
 rw[this,qV];omega
end Go.Tr
namespace Go.Proofs.YtbdimbjclhmeoaaGreat
open Go Go.RowKit Go.Proofs Go.Tr
def Ke(f:Nat)(args:List SV)(es:List aB)(c:Int):Prop:=
 (es=[]/\aA Tryz.prog f args [] (.tup [.raw (.slice none 0 0),.int .i64 c]) [])\/aA Tryz.prog f args [] (.tup [.sl 10000,.int .i64 c]) [.row 10000 67 5 aV es []]
theorem O7{f:Nat}{args:List SV}{es:List aB}{c:Int}{vs:bW}{w:World}(h:Ke f args es c)(hd:∀β,aF ⟨w,[]⟩ β args vs):
  Calls Tryz.prog f vs.toArray w fun e w'=>∃(B0:Option Addr) (d0:Nat) (q0:List Nat),e=.returned (.tuple #[.slice B0 (es.map Xd).length d0,.int .i64 c])/\Ext w w'/\T1 w' (.sl (es.map Xd).length ((es.map Xd).flatMap aM.enc)) q0 (.slice B0 (es.map Xd).length d0)/\Own w.heap.size w' (q0):=by
 rcases h with⟨rfl,h⟩|h
 .refine(h.2 ⟨w,[]⟩ (fun _=>undef) w [] vs (Inv.FH w) (hd _)).mono ?_;rintro e w' ⟨v',β',rfl,_,h1,h2⟩;unfold Den at h1;obtain⟨us,rfl,h1⟩:=h1;unfold aF at h1;obtain⟨y1,us1,rfl,k1,h1⟩:=h1;unfold aF at h1;obtain⟨y2,us2,rfl,k2,h1⟩:=h1;unfold aF at h1;subst h1;unfold Den at k1 k2;subst k2;obtain⟨rfl,_⟩:=k1;exact⟨none,0,[],rfl,h2.Oi,T1.empty none,Own.nil _ _⟩
 .refine(h.2 ⟨w,[]⟩ (fun _=>undef) w [] vs (Inv.FH w) (hd _)).mono ?_;rintro e w' ⟨v',β',rfl,_,h1,h2⟩;have hI':Inv (Cx.mk w []).w0 [] w' [Tok.res ⟨w,[]⟩ β' (.row 10000 67 5 aV es [])]:=by simpa using h2
  obtain⟨A,c',q,r1,r2,r3⟩:=hI'.ZbN;unfold Den at h1;obtain⟨us,rfl,h1⟩:=h1;unfold aF at h1;obtain⟨y1,us1,rfl,k1,h1⟩:=h1;unfold aF at h1;obtain⟨y2,us2,rfl,k2,h1⟩:=h1;unfold aF at h1;subst h1;unfold Den at k1 k2;obtain⟨rfl,_⟩:=k1;subst k2;rw[Tw,qV,r1];exact⟨A,c',q,rfl,h2.Oi,r2,r3⟩
end Go.Proofs.YtbdimbjclhmeoaaGreat
