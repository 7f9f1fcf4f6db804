
/- Functions that answer a row of ints and a code. Printed by gen_yq.py. -/
import Derived.Test.YtemalpelcdmemaaGreatYn
import Derived.Test.YtemalpelcdmemaaGreatRm
import Derived.Test.YtemalpelcdmemaaGreatKDbg
set_option linter.unusedSimpArgs false
set_option linter.unusedVariables false
namespace Go.Proofs.YtemalpelcdmemaaGreat
open Go Go.RowKit Go.Proofs Go.Tr
def Al(f:Nat)(args:List SV)(l:List Int)(c:Int):Prop:=
 (l=[]∧FCall Tryz.prog f args [] (.tup [.raw (.slice none 0 0),.int .i64 c]) [])∨FCall Tryz.prog f args [] (.tup [.sl 10000,.int .i64 c]) [.row 10000 2 1 (.int .i64) l []]
theorem Me{f:Nat}{args:List SV}{l:List Int}{c:Int}{vs:List Value}{w:World}(h:Al f args l c)(hd:∀β,aM ⟨w,[]⟩ β args vs):
  Calls Tryz.prog f vs.toArray w fun e w'=>∃(B0:Option Addr) (d0:Nat) (q0:List Nat),e=.returned (.tuple #[.slice B0 l.length d0,.int .i64 c])∧Ext w w'∧T1 w' (.sl l.length (l.flatMap bg)) q0 (.slice B0 l.length d0)∧Own w.heap.size w' (q0):=by
 rcases h with⟨rfl,h⟩|h
 ·refine(h.2 ⟨w,[]⟩ (fun _=>undef) w [] vs (Inv.uI w) (hd _)).mono ?_;rintro e w' ⟨v',β',rfl,_,h1,h2⟩;unfold Den at h1;obtain⟨us,rfl,h1⟩:=h1;unfold aM at h1;obtain⟨y1,us1,rfl,k1,h1⟩:=h1;unfold aM at h1;obtain⟨y2,us2,rfl,k2,h1⟩:=h1;unfold aM at h1;subst h1;unfold Den at k1 k2;subst k2;obtain⟨rfl,_⟩:=k1;exact⟨none,0,[],rfl,h2.wV,T1.empty none,Own.nil _ _⟩
 ·refine(h.2 ⟨w,[]⟩ (fun _=>undef) w [] vs (Inv.uI w) (hd _)).mono ?_;rintro e w' ⟨v',β',rfl,_,h1,h2⟩;have hI':Inv (Cx.mk w []).w0 [] w' [Tok.res ⟨w,[]⟩ β' (.row 10000 2 1 (.int .i64) l [])]:=by simpa using h2
  obtain⟨A,c',q,r1,r2,r3⟩:=hI'.ZaF;unfold Den at h1;obtain⟨us,rfl,h1⟩:=h1;unfold aM at h1;obtain⟨y1,us1,rfl,k1,h1⟩:=h1;unfold aM at h1;obtain⟨y2,us2,rfl,k2,h1⟩:=h1;unfold aM at h1;subst h1;unfold Den at k1 k2;obtain⟨rfl,_⟩:=k1;subst k2;rw[r1];refine⟨A,c',q,rfl,h2.wV,?_,r3⟩;rw[sw]at r2;exact r2
theorem wm(bk:List (List NAgent))(xs:List NAgent)(sch:List Int)(st:Int):askN (vldB bk xs) (schedB sch&&inB st 0 4000)=0∨∃c,c≠0∧askN (vldB bk xs) (schedB sch&&inB st 0 4000)=c:=by
 by_cases h:askN (vldB bk xs) (schedB sch&&inB st 0 4000)=0
 ·exact .inl h
 ·exact .inr ⟨_,h,rfl⟩
theorem Fq{bk:List (List NAgent)}{t:GSt}(g:GOk bk t)(al:Bool):NetSmall (refP al t.P)∧bE (refP al t.P)∧(refP al t.P).length≤900000∧vT t.xs t.kv∧t.xs.length≤900000∧Go.Proofs.YtemalpelcdmemaaGreat.BJ t.xs t.kv=packN (refP al t.P):=by
 obtain⟨⟨N1,rs⟩,lp⟩:=g.ref al;obtain⟨h1,h2⟩:=rs.small (by omega);obtain⟨s1,s2,_⟩:=RS.Vu rs (by omega);have lx:=g.lx;exact⟨h1,h2,by omega,s1,by omega,by rw[s2,rs.X7.2]⟩
end Go.Proofs.YtemalpelcdmemaaGreat
