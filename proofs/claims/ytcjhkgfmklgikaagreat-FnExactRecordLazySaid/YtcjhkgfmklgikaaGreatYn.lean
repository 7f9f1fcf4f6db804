
/- One interaction of the program's nets, and of the reference's runs. -/
import Derived.Test.YtcjhkgfmklgikaaGreatShort
import Derived.Test.YtcjhkgfmklgikaaGreatIp
import Derived.Test.YtcjhkgfmklgikaaGreatJh
import Derived.Test.YtcjhkgfmklgikaaGreatNy
import Derived.Test.YtcjhkgfmklgikaaGreatYd
import Derived.Test.YtcjhkgfmklgikaaGreatRn
import Derived.Test.YtcjhkgfmklgikaaGreatUg
import Derived.Test.YtcjhkgfmklgikaaGreatRh
import Derived.Test.YtcjhkgfmklgikaaGreatKEv
set_option linter.unusedSimpArgs false
set_option linter.unusedVariables false
set_option linter.unusedSectionVars false
namespace Go.Proofs.YtcjhkgfmklgikaaGreat
open Go Go.RowKit Go.Proofs Go.Tr
end Go.Proofs.YtcjhkgfmklgikaaGreat
namespace Go.Tr
open Go Go.RowKit
section
variable {kv:List (Int×Bool)}{xs N P:List aj}
theorem RS.pos(h:RS kv xs N P):0<P.length:=by
 obtain⟨k2,z2,g,TP,rg⟩:=h.tp;exact TP.pos
theorem RS.live(h:RS kv xs N P):dh P P.length+kv.length=xs.length∧dh N N.length=dh P P.length:=by
 obtain⟨Y,f,TY,rf⟩:=h.tx;obtain⟨k2,z2,g,TP,rg⟩:=h.tp;have:=TY.live;rw[rf.dh]at this;rw[rg.dh];exact⟨this,rfl⟩
end
end Go.Tr
namespace Go.Proofs.YtcjhkgfmklgikaaGreat
open Go Go.RowKit Go.Proofs Go.Tr
def ZU(xs:List aj)(p:Int×Int):Prop:=(0≤p.1∧p.1<(xs.length:Nat))∧0≤p.2∧p.2<(xs.length:Nat)
theorem aA.perm{P:Program}{f:Nat}{args:List SV}{ts:List Tok}{r:SV}{ts' ts2:List Tok}(h:aA P f args ts r ts')(hp:ts'.Perm ts2):aA P f args ts r ts2:=by
 refine⟨h.1,fun cx β w fr vs hI hd=>(h.2 cx β w fr vs hI hd).mono ?_⟩;rintro e w' ⟨v,β',rfl,h1,h2,h3⟩;exact⟨v,β',rfl,h1,h2,h3.perm ((hp.map _).append_right fr)⟩
section
variable (bk:List (List aj))(P:List aj)(us:List Value)(pk:Int)(tr:List Int)(Q:Int×Int)(hQ:ZU P Q)
include hQ
end
end Go.Proofs.YtcjhkgfmklgikaaGreat
namespace Go.Proofs.YtcjhkgfmklgikaaGreat
open Go Go.RowKit Go.Proofs Go.Tr
section
variable (xs:List aj)(us:List Value)(bk:List (List aj))(kv:List (Int×Bool))(cn tr cu ex:List Int)
end
end Go.Proofs.YtcjhkgfmklgikaaGreat
namespace Go.Proofs.YtcjhkgfmklgikaaGreat
open Go Go.RowKit Go.Proofs Go.Tr
section
variable (xs:List aj)(us:List Value)(bk:List (List aj))(kv:List (Int×Bool))(cn tr cu ex:List Int)
end
end Go.Proofs.YtcjhkgfmklgikaaGreat
namespace Go.Tr
open Go Go.RowKit
theorem aA.rot{P:Program}{f:Nat}{args:List SV}{ts:List Tok}{r:SV}{t:Tok}{ts':List Tok}(h:aA P f args ts r (t::ts')):aA P f args ts r (ts'++[t]):=by
 refine⟨h.1,fun cx β w fr vs hI hd=>(h.2 cx β w fr vs hI hd).mono ?_⟩;rintro e w' ⟨v,β',rfl,h1,h2,h3⟩;refine⟨v,β',rfl,h1,h2,h3.perm ?_⟩;rw[qZ,List.map_cons,qF];exact(List.perm_middle (l₁:=ts'.map (Tok.res cx β')) (l₂:=fr) (a:=Tok.res cx β' t)).symm
end Go.Tr
namespace Go.Proofs.YtcjhkgfmklgikaaGreat
open Go Go.RowKit Go.Proofs Go.Tr
section
variable (xs:List aj)(us:List Value)(bk:List (List aj))(kv:List (Int×Bool))(cn tr cu ex:List Int)(X:Int×Int)(hX:ZU xs X)
include hX
end
end Go.Proofs.YtcjhkgfmklgikaaGreat
namespace Go.Tr
open Go Go.RowKit
structure ZL where
 kv:List (Int×Bool)
 xs:List aj
 N:List aj
 P:List aj
 cn:List Int
 tr:List Int
 cu:List Int
 ex:List Int
 df:List Int
section
variable {bk:List (List aj)}{s:ZL}
theorem RS.small{kv:List (Int×Bool)}{xs N P:List aj}(h:RS kv xs N P)(hl:P.length≤100000):dH P∧bf P:=by
 obtain⟨k,z,g,T,_⟩:=h.tp;refine⟨⟨by omega,fun i=> ?_⟩,T.Kl⟩;have hlen:=T.len
 by_cases hi:i<P.length
 ·cases hv:dL P i with
  |true=>
   have w:=T.MO hi hv;have w1:=wf_data w;have w2:=(iN w).2;exact⟨by show(ah P (i:Nat)).2.2.2.1.length≤1048576;omega,by show(ah P (i:Nat)).2.2.2.2.length≤1048576;omega⟩
  |false=>
   have e:ah P (i:Nat)=Ba:=by
    rw[T.dL (by omega)]at hv
    have hg:Gone k ((i:Nat):Int):=by
     show bE false k ((i:Nat):Int)=true;cases hq:bE false k ((i:Nat):Int)with
     |true=>rfl
     |false=>rw[hq]at hv;cases hv
    exact(T.hole _ hg).2
   rw[e];decide
 ·rw[sZ (by omega)];decide
end
end Go.Tr
namespace Go.Proofs.YtcjhkgfmklgikaaGreat
open Go Go.RowKit Go.Proofs Go.Tr
variable (al:Bool)(bk:List (List aj))(sch:List Int)(most:Int)
variable {al bk sch most}
end Go.Proofs.YtcjhkgfmklgikaaGreat
namespace Go.Proofs.YtcjhkgfmklgikaaGreat
open Go Go.RowKit Go.Proofs Go.Tr
section
variable (bk:List (List aj))(sch:List Int)(most:Int)
end
end Go.Proofs.YtcjhkgfmklgikaaGreat
namespace Go.Tr
open Go Go.RowKit
theorem NY{xs:List aT}(h:xs.length≤1000):cN ((xs.map Tt).flatMap aP.enc)≤1099511627776:=by
 have:∀ys:List aP,cN (ys.flatMap aP.enc)=5*ys.length:=fun ys=>by
  induction ys with
  |nil=>rfl
  |cons y l ih=>
   rw[qU,bS,ih,qI];have:cN y.enc=5:=rfl;omega
 rw[this,qV];omega
end Go.Tr
namespace Go.Proofs.YtcjhkgfmklgikaaGreat
open Go Go.RowKit Go.Proofs Go.Tr
def Im(f:Nat)(args:List SV)(es:List aT)(c:Int):Prop:=
 (es=[]∧aA Tryz.prog f args [] (.tup [.raw (.slice none 0 0),.int .i64 c]) [])∨aA Tryz.prog f args [] (.tup [.sl 10000,.int .i64 c]) [.row 10000 88 5 rH es []]
theorem Ms{f:Nat}{args:List SV}{es:List aT}{c:Int}{vs:List Value}{w:World}(h:Im f args es c)(hd:∀β,aM ⟨w,[]⟩ β args vs):
  Calls Tryz.prog f vs.toArray w fun e w'=>∃(B0:Option Addr) (d0:Nat) (q0:List Nat),e=.returned (.tuple #[.slice B0 (es.map Tt).length d0,.int .i64 c])∧Ext w w'∧T1 w' (.sl (es.map Tt).length ((es.map Tt).flatMap aP.enc)) q0 (.slice B0 (es.map Tt).length d0)∧Own w.heap.size w' (q0):=by
 rcases h with⟨rfl,h⟩|h
 ·refine(h.2 ⟨w,[]⟩ (fun _=>undef) w [] vs (Inv.wN w) (hd _)).mono ?_;rintro e w' ⟨v',β',rfl,_,h1,h2⟩;unfold Den at h1;obtain⟨us,rfl,h1⟩:=h1;unfold aM at h1;obtain⟨y1,us1,rfl,k1,h1⟩:=h1;unfold aM at h1;obtain⟨y2,us2,rfl,k2,h1⟩:=h1;unfold aM at h1;subst h1;unfold Den at k1 k2;subst k2;obtain⟨rfl,_⟩:=k1;exact⟨none,0,[],rfl,h2.yB,T1.empty none,Own.nil _ _⟩
 ·refine(h.2 ⟨w,[]⟩ (fun _=>undef) w [] vs (Inv.wN w) (hd _)).mono ?_;rintro e w' ⟨v',β',rfl,_,h1,h2⟩;have hI':Inv (Cx.mk w []).w0 [] w' [Tok.res ⟨w,[]⟩ β' (.row 10000 88 5 rH es [])]:=by simpa using h2
  obtain⟨A,c',q,r1,r2,r3⟩:=hI'.X6;unfold Den at h1;obtain⟨us,rfl,h1⟩:=h1;unfold aM at h1;obtain⟨y1,us1,rfl,k1,h1⟩:=h1;unfold aM at h1;obtain⟨y2,us2,rfl,k2,h1⟩:=h1;unfold aM at h1;subst h1;unfold Den at k1 k2;obtain⟨rfl,_⟩:=k1;subst k2;rw[P9,qV,r1];exact⟨A,c',q,rfl,h2.yB,r2,r3⟩
section
variable (a0:List aO){A0:Option Addr}{c0:Nat}{p0:List Nat}(a1:aO){p1:List Nat}{u1:List Value}(a2:List Int){A2:Option Addr}{c2:Nat}{p2:List Nat}(a3:Int)(r0:List aP)(r1:Int)
end
end Go.Proofs.YtcjhkgfmklgikaaGreat
namespace Go.Proofs.YtcjhkgfmklgikaaGreat
open Go Go.RowKit Go.Proofs Go.Tr
abbrev g0(xs:List aj):ZL:=⟨[],xs,xs,xs,List.replicate 7 0,[],[(xs.length:Int)],[],[]⟩
section
variable (bk:List (List aj))(xs:List aj)(sch:List Int)(st:Int)
end
end Go.Proofs.YtcjhkgfmklgikaaGreat
