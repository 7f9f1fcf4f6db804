
/- Words: bytes, keywords, names; both sides. -/
import Derived.Test.YtpdipfohnpopmaaDoorVU
import Derived.Test.YtpdipfohnpopmaaDoorLc
set_option maxRecDepth 100000
set_option linter.unusedSimpArgs false
set_option linter.unusedVariables false
namespace Go.Proofs.YtpdipfohnpopmaaDoor
open Go Go.RowKit Go.Proofs Go.Tr
theorem Ei{a b:Nat}(h:decide (((a:Nat):Int)<((b:Nat):Int))=true):a<b:=by have:=of_decide_eq_true h;omega
theorem Ef{a b:Nat}(h:decide (((a:Nat):Int)<((b:Nat):Int))=false):b<=a:=by have:=of_decide_eq_false h;omega
theorem Em{k:Nat}(h:k<1000000000000):IntKind.i64.wrap ((k:Int)+1)=((k+1:Nat):Int):=oK (by omega)
def j6(b:Int):Bool:=bif decide ((97:Int)<=b)then decide (b<=122)else false
def tV(b:Int):Bool:=bif decide ((65:Int)<=b)then decide (b<=90)else false
def kS(b:Int):Bool:=bif decide ((48:Int)<=b)then decide (b<=57)else false
def l7(b:Int):Bool:=bif j6 b then true else tV b
def iL(b:Int):Bool:=bif l7 b then true else kS b
abbrev nL:List ByteArray:=[⟨#[100,97,116,97]⟩,⟨#[100,101,102]⟩,⟨#[108,101,116]⟩,⟨#[105,110]⟩,⟨#[109,97,116,99,104]⟩,⟨#[105,102]⟩,⟨#[116,104,101,110]⟩,⟨#[101,108,115,101]⟩]
def uz(m:List ByteArray)(x:ByteArray):Bool:=m.any fun y=>decide (y=x)
theorem mg{m:List ByteArray}{x:ByteArray}:uz m x=true↔x∈m:=by simp[uz]
theorem sw{m:List ByteArray}{x:ByteArray}:uz m x=false↔¬x∈m:=by rw[<-mg];simp
def kT(s:ByteArray):Bool:=uz nL s
def eP(s:ByteArray)(i:Nat):Bool:=(List.range i).all fun k=>iL (aG s ((k:Nat):Int))
theorem nS(s:ByteArray)(i:Nat):eP s (i+1)=(eP s i&&iL (aG s ((i:Nat):Int))):=by unfold eP;rw[List.range_succ,List.all_append];simp
theorem kX{s:ByteArray}{i k:Nat}(h:eP s i=true)(hk:k<i):iL (aG s ((k:Nat):Int))=true:=by
 unfold eP at h;exact List.all_eq_true.1 h k (by simpa using hk)
def tQ(s:ByteArray):Bool:=bif (bif (bif decide (((s.size:Nat):Int)<1)then true else decide ((12:Int)<((s.size:Nat):Int)))then true else kS (aG s 0))then true else kT s
def dF(s:ByteArray):Bool:=bif tQ s then false else eP s s.size
theorem zH(b:Int):aD Tryd.prog 19 [.int .u8 b] (.bool (j6 b)):=by
 refine aD.intro (nt:=9) aZ mixed (by kernel_rfl) Tryd.func19 rfl rfl rfl rfl rfl ?_;exact rfl
theorem Dn(b:Int):aD Tryd.prog 20 [.int .u8 b] (.bool (tV b)):=by
 refine aD.intro (nt:=9) aZ mixed (by kernel_rfl) Tryd.func20 rfl rfl rfl rfl rfl ?_;exact rfl
theorem Du(b:Int):aD Tryd.prog 21 [.int .u8 b] (.bool (kS b)):=by
 refine aD.intro (nt:=9) aZ mixed (by kernel_rfl) Tryd.func21 rfl rfl rfl rfl rfl ?_;exact rfl
theorem Er(b:Int):aD Tryd.prog 26 [.int .u8 b] (.bool (kS b)):=by
 refine aD.intro (nt:=9) aZ mixed (by kernel_rfl) Tryd.func26 rfl rfl rfl rfl rfl ?_;exact rfl
theorem Dx(b:Int):aD Tryd.prog 24 [.int .u8 b] (.bool (l7 b)):=by
 refine aD.intro (nt:=17) aZ mixed (by kernel_rfl) Tryd.func24 rfl rfl rfl rfl rfl ?_;exact rfl
theorem Eb(b:Int):aD Tryd.prog 22 [.int .u8 b] (.bool (iL b)):=by
 refine aD.intro (nt:=13) aZ mixed (by kernel_rfl) Tryd.func22 rfl rfl rfl rfl rfl ?_;refine oZ (zH b) ?_;refine oZ (fun _=>Dn b) ?_;refine oZ (fun _=>Du b) ?_;exact rfl
theorem Bw:dI Tryd.prog 23=true:=by kernel_rfl
theorem jl{l:List ByteArray}{i:Nat}(hi:i<l.length):elt (dflt .str) l ((i:Nat):Int)=l[i]:=by
 unfold elt;rw[qC,qK,qB hi];rfl
theorem ixT(m:List ByteArray)(hl:m.length<=1000000)(x:ByteArray):∃r:Int,decide (0<=r)=uz m x/\aD Tryd.prog 33 [.rsl .str m,.raw (.string x)] (.int .i64 r):=by
 have key:∃i0:Nat,i0<=m.length/\(∀j (hj:j<m.length),j<i0->m[j]≠x)/\(∀(h:i0<m.length),m[i0]=x):=by
  refine⟨m.findIdx (fun y=>decide (y=x)),List.findIdx_le_length,fun j hj hlt=> ?_,fun h=> ?_⟩
  .have:=List.not_of_lt_findIdx hlt;simpa using this
  .have:=List.findIdx_getElem (w:=h);simpa using this
 obtain⟨i0,h0,h1,h2⟩:=key
 have hm:i0<m.length↔x∈m:=by
  constructor
  .intro h;rw[<-h2 h];exact List.getElem_mem h
  .intro h;obtain⟨j,hj,he⟩:=List.getElem_of_mem h;rcases Nat.lt_or_ge i0 m.length with h3|h3
   .exact h3
   .exact absurd he (h1 j hj (by omega))
 refine⟨bif decide (i0<m.length)then((i0:Nat):Int)else -1,?_,?_⟩
 .rcases Nat.lt_or_ge i0 m.length with h|h
  .rw[decide_eq_true h,mg.2 (hm.1 h)];exact decide_eq_true (by show(0:Int)<=((i0:Nat):Int);omega)
  .rw[decide_eq_false (show ¬i0<m.length by omega),sw.2 (fun h3=>absurd (hm.2 h3) (by omega))];rfl
 refine aD.intro (nt:=19) aZ mixed (by kernel_rfl) Tryd.func33 rfl rfl rfl rfl rfl ?_;refine lp Nat (fun i=>[(8,.int .i64 (i:Nat))]) (fun _=>[]) (fun i=>m.length-i) (fun i=>i<=i0) 0 (Nat.zero_le _) ?_ ?_
 .exact Go.Tr.hd [] rfl (aI (aI rfl rfl) trivial) trivial
 intro i hi;have hi:i<=i0:=hi;refine aI (fun q1=> ?_) (fun q1=> ?_)
 .have hlt:i<m.length:=Ei q1;have hi3:(0:Int)<=((i:Nat):Int)/\((i:Nat):Int)<(m.length:Nat):=⟨by omega,by omega⟩;refine aI hi3 ?_;refine aI (fun q2=> ?_) (fun q2=> ?_)
  .have q3:decide (x=elt (dflt .str) m ((i:Nat):Int))=true:=q2;rw[jl hlt]at q3
   have hii:i=i0:=by
    rcases Nat.lt_or_ge i i0 with h|h
    .exact absurd (of_decide_eq_true q3).symm (h1 i hlt h)
    .omega
   subst hii;rw[decide_eq_true hlt];exact⟨rfl,rfl⟩
  .have q3:decide (x=elt (dflt .str) m ((i:Nat):Int))=false:=q2;rw[jl hlt]at q3
   have hii:i≠i0:=fun h=>by
    subst h;exact of_decide_eq_false q3 (h2 hlt).symm
   refine jv (i+1) (by show i+1<=i0;omega) ?_ (by show m.length-(i+1)<m.length-i;omega);exact Go.Tr.hd [] rfl (aI (aI (Em (by omega)) rfl) trivial) trivial
 .have hge:m.length<=i:=Ef q1;rw[decide_eq_false (show ¬i0<m.length by omega)];exact⟨rfl,rfl⟩
theorem coT(m:List ByteArray)(hl:m.length<=1000000)(x:ByteArray):aD Tryd.prog 23 [.rsl .str m,.raw (.string x)] (.bool (uz m x)):=by
 obtain⟨r,h1,h2⟩:=ixT m hl x;refine aD.intro (nt:=9) aZ mixed Bw Tryd.func23 rfl rfl rfl rfl rfl ?_;refine oZ h2 ?_;exact h1
theorem EN(s:ByteArray):aD Tryd.prog 9 [.raw (.string s)] (.bool (kT s)):=by
 refine aD.intro (nt:=6) aZ mixed (by kernel_rfl) Tryd.func9 rfl rfl rfl rfl rfl ?_;have hc:bD Tryd.prog 23 [.sl 10000,.raw (.string s)] [.row 10000 9 1 .str nL []] (.bool (uz nL s)) [.row 10000 9 1 .str nL []]:=bD.Ey aZ [35,0] Bw (coT nL (by decide) s) rfl;refine oY hc ?_;exact rfl
theorem Dw:bD Tryd.prog 34 [] [] (.sl 10000) [.row 10000 9 1 .str nL []]:=by
 refine bD.intro (nt:=2) aZ mixed (by kernel_rfl) Tryd.func34 rfl rfl rfl rfl rfl rfl ?_;refine fin [(10000,1)] (aI rfl ?_);exact⟨⟨rfl,nP⟩,trivial⟩
theorem kwS(s:ByteArray):aD Tryd.prog 25 [.raw (.string s)] (.bool (kT s)):=by
 have key:∃i0:Nat,i0<=nL.length/\(∀j (hj:j<nL.length),j<i0->nL[j]≠s)/\(∀(h:i0<nL.length),nL[i0]=s):=by
  refine⟨nL.findIdx (fun y=>decide (y=s)),List.findIdx_le_length,fun j hj hlt=> ?_,fun h=> ?_⟩
  .have:=List.not_of_lt_findIdx hlt;simpa using this
  .have:=List.findIdx_getElem (w:=h);simpa using this
 obtain⟨i0,h0,h1,h2⟩:=key;have hk8:nL.length=8:=rfl;refine aD.intro (nt:=16) aZ mixed (by kernel_rfl) Tryd.func25 rfl rfl rfl rfl rfl ?_;refine lp Nat (fun i=>[(3,.int .i64 (i:Nat))]) (fun _=>[]) (fun i=>nL.length-i) (fun i=>i<=i0) 0 (Nat.zero_le _) ?_ ?_
 .exact Go.Tr.hd [] rfl (aI (aI rfl rfl) trivial) trivial
 intro i hi;have hi:i<=i0:=hi;refine oY Dw ?_;refine aI (fun q1=> ?_) (fun q1=> ?_)
 .have hlt:i<nL.length:=Ei q1;have hi3:(0:Int)<=((i:Nat):Int)/\((i:Nat):Int)<(nL.length:Nat):=⟨by omega,by omega⟩;refine oY Dw ?_;refine aI hi3 ?_;refine aI (fun q2=> ?_) (fun q2=> ?_)
  .have q3:decide (elt (dflt .str) nL ((i:Nat):Int)=s)=true:=q2;rw[jl hlt]at q3;show true=kT s;unfold kT;rw[<-of_decide_eq_true q3];exact(mg.2 (List.getElem_mem hlt)).symm
  .have q3:decide (elt (dflt .str) nL ((i:Nat):Int)=s)=false:=q2;rw[jl hlt]at q3
   have hii:i≠i0:=fun h=>by
    subst h;exact of_decide_eq_false q3 (h2 hlt)
   refine jv (i+1) (by show i+1<=i0;omega) ?_ (by show nL.length-(i+1)<nL.length-i;omega);exact Go.Tr.hd [] rfl (aI (aI (Em (by omega)) rfl) trivial) trivial
 .have hge:nL.length<=i:=Ef q1;show false=kT s;unfold kT;symm;refine sw.2 fun hm=> ?_
  obtain⟨j,hj,he⟩:=List.getElem_of_mem hm;exact h1 j hj (by omega) he
end Go.Proofs.YtpdipfohnpopmaaDoor
