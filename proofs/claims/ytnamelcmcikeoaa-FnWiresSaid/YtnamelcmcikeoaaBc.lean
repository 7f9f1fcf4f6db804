
/- Drawn nets, walked: one agent more, two agents that are an active pair. -/
import Derived.Test.YtnamelcmcikeoaaShort
import Derived.Test.YtnamelcmcikeoaaBb
set_option linter.unusedSimpArgs false
set_option linter.unusedVariables false
namespace Go.Proofs.Ytnamelcmcikeoaa
open Go Go.RowKit Go.Proofs Go.Tr
abbrev tN(g:Nat)(xs:List ah):List Tok:=[.aN 10001 26 [.sl g],.row g 34 5 aL xs []]
theorem A9:bS Try.prog 40=true:=by kernel_rfl
section
variable (code:List Int)(d:DS)
set_option maxRecDepth 100000 in
theorem addN(hb:Bytes code)(hd:d.k≤99999900)(xs:List ah)(hx:xs.length≤1000000)(k lv:Int)(hk:dz k=true):
  ∃(a:ah) (d':DS),Fq k lv a∧d'.k≤d.k+24∧aH Try.prog 40 [.ptr 10000 0,.ptr 10001 0,.int .i64 k,.int .i64 lv] (kE code d++tN 10002 xs) (.int .i64 (xs.length:Nat)) (kE code d'++tN 10003 (xs++[a])):=by
 obtain⟨⟨a1,a2,a3,a4,a5⟩,d',hA,hd',h⟩:=bH code d hb hd k lv hk;refine⟨_,d',hA,hd',?_⟩
 have hw:IntKind.i64.wrap ((((xs++[(a1,a2,a3,a4,a5)]).length:Nat):Int)-1)=((xs.length:Nat):Int):=by
  rw[List.length_append,List.length_singleton,IntWalk.i64_in _ (by omega)];omega
 rcases h with⟨h0,h⟩|h
 ·have h0:a4=[]:=h0;subst h0;refine aH.intro (nt:=28) aS mixed A9 Try.func40 rfl rfl rfl rfl rfl rfl ?_;refine Or.inr (eI _ (eI _ (aI h ?_)));refine aI (by show xs.length+1≤_;omega) ?_;refine aI (by kernel_rfl) ?_;refine fin [(10003,19)] (aI ⟨hw,rfl⟩ ?_);exact⟨trivial,⟨rfl,⟨rfl,rfl⟩,⟨rfl,rfl⟩,trivial⟩,trivial,⟨rfl,trivial⟩,⟨rfl,nP⟩,trivial⟩
 ·refine aH.intro (nt:=28) aS mixed A9 Try.func40 rfl rfl rfl rfl rfl rfl ?_;refine Or.inr (eI _ (eI _ (aI h ?_)));refine aI (by show xs.length+1≤_;omega) ?_;refine aI (by kernel_rfl) ?_;refine fin [(10003,19)] (aI ⟨hw,rfl⟩ ?_);exact⟨trivial,⟨rfl,⟨rfl,rfl⟩,⟨rfl,rfl⟩,trivial⟩,trivial,⟨rfl,trivial⟩,⟨rfl,nP⟩,trivial⟩
set_option maxRecDepth 100000 in
theorem NI(hb:Bytes code)(hd:d.k≤99999900)(k lv:Int)(hk:dz k=true):
  ∃(a:ah) (d':DS),Fq k lv a∧d'.k≤d.k+24∧aH Try.prog 40 [.ptr 10000 0,.ptr 10001 0,.int .i64 k,.int .i64 lv] (kE code d++[.aN 10001 26 [.raw (.slice none 0 0)]]) (.int .i64 0) (kE code d'++tN 10002 [a]):=by
 obtain⟨⟨a1,a2,a3,a4,a5⟩,d',hA,hd',h⟩:=bH code d hb hd k lv hk;refine⟨_,d',hA,hd',?_⟩;rcases h with⟨h0,h⟩|h
 ·have h0:a4=[]:=h0;subst h0;refine aH.intro (nt:=28) aS mixed A9 Try.func40 rfl rfl rfl rfl rfl rfl ?_;refine Or.inr (eI _ (eI _ (aI h ?_)));refine aI (by show 1≤1073741824;omega) ?_;refine aI (by kernel_rfl) ?_;refine fin [(10002,19)] (aI ⟨by show IntKind.i64.wrap (((1:Nat):Int)-1)=0;decide+kernel,rfl⟩ ?_);exact⟨trivial,⟨rfl,⟨rfl,rfl⟩,⟨rfl,rfl⟩,trivial⟩,trivial,⟨rfl,trivial⟩,⟨rfl,nP⟩,trivial⟩
 ·refine aH.intro (nt:=28) aS mixed A9 Try.func40 rfl rfl rfl rfl rfl rfl ?_;refine Or.inr (eI _ (eI _ (aI h ?_)));refine aI (by show 1≤1073741824;omega) ?_;refine aI (by kernel_rfl) ?_;refine fin [(10002,19)] (aI ⟨by show IntKind.i64.wrap (((1:Nat):Int)-1)=0;decide+kernel,rfl⟩ ?_);exact⟨trivial,⟨rfl,⟨rfl,rfl⟩,⟨rfl,rfl⟩,trivial⟩,trivial,⟨rfl,trivial⟩,⟨rfl,nP⟩,trivial⟩
end
end Go.Proofs.Ytnamelcmcikeoaa
