
/- The program's pairs of a net. -/
import Derived.Test.YtbdimbjclhmeoaaGreatUp
import Derived.Test.YtbdimbjclhmeoaaGreatRg
set_option linter.unusedSimpArgs false
set_option linter.unusedVariables false
namespace Go.Proofs.YtbdimbjclhmeoaaGreat
open Go Go.RowKit Go.Proofs Go.Tr
theorem ltU{k n:Nat}(h:decide (((k:Nat):Int)<((n:Nat):Int))=true):k<n:=by simp only[qQ]at h;omega
theorem geU{k n:Nat}(h:decide (((k:Nat):Int)<((n:Nat):Int))=false):n<=k:=by simp only[qP]at h;omega
section
variable (xs:aS)(us:bW)(bk:iQ)(kv:kT)(ev:List aB)
end
end Go.Proofs.YtbdimbjclhmeoaaGreat
namespace Go.Proofs.YtbdimbjclhmeoaaGreat
open Go Go.RowKit Go.Proofs Go.Tr
theorem UW:bH Tryz.prog 93=true:=by kernel_rfl
set_option maxRecDepth 100000 in
theorem ZN(ys:aS)(hl:ys.length<=1000000)(h0:0<ys.length)(hp:∀i:Nat,i<ys.length->mF ys i=true->0<(ah ys (i:Nat)).2.2.2.2.length):aA Tryz.prog 93 [.rp aZ ys] [] (.sl 10000) [.row 10000 145 2 aK (uG ys) []]:=by
 refine aA.intro (nt:=52) aG mixed UW Tryz.func93 rfl rfl rfl rfl rfl rfl ?_;refine lp Nat (fun i=>[(4,.int .i64 (i:Nat)),(3,.sl 20000)]) (fun i=>[.row 20000 145 2 aK (vI (EY ys) ys i) []]) (fun i=>ys.length-i) (fun i=>1<=i/\i<=ys.length) 1 ⟨Nat.le_refl 1,h0⟩ ?_ ?_
 .exact hd [(20000,6)] rfl (aI (aI rfl rfl) (aI rfl trivial)) ⟨⟨(show([]:List (Int×Int))=vI (EY ys) ys 1 from(zh (c:=EY ys) (xs:=ys) (k:=0) rfl).symm),nP⟩,trivial⟩
 rintro i ⟨h1,hi⟩;have h1':1<=i:=h1;refine aI (fun q1=> ?_) (fun q1=> ?_)
 .have hlt:i<ys.length:=ltU q1;have hk:0<=((i:Nat):Int)/\((i:Nat):Int)<(ys.length:Nat):=by omega
  refine aI hk ?_;refine aI (fun q2=> ?_) (fun q2=> ?_)
  .have hv:mF ys i=false:=Xn q2;have hr:EY ys i=false:=by unfold EY;rw[hv];cases decide (1<=i)<;>rfl
   refine aY (i+1) ⟨by omega,hlt⟩ ?_ ?_
   .exact hd [] rfl (aI (aI (dG (by omega)) rfl) (aI rfl trivial)) ⟨⟨(zh hr).symm,nP⟩,trivial⟩
   .show ys.length-(i+1)<ys.length-i;omega
  .have hv:mF ys i=true:=Xo q2;have hp1:=hp i hlt hv;have he:EY ys i=XI ys i:=by unfold EY;rw[hv,decide_eq_true h1'];rfl
   refine aI hk ?_;refine aI (show(0:Int)<=0/\(0:Int)<((ah ys (i:Nat)).2.2.2.2.length:Nat) by omega) ?_;refine aI (fun q3=> ?_) (fun q3=> ?_)
   .have hr:EY ys i=true:=by rw[he];exact q3
    refine aI (show(vI (EY ys) ys i).length+1<=1073741824 by have:=LB (EY ys) ys i;omega) ?_;refine aY (i+1) ⟨by omega,hlt⟩ ?_ ?_
    .refine hd [(20000,50)] rfl (aI (aI (dG (by omega)) rfl) (aI rfl trivial)) ⟨⟨?_,nP⟩,trivial⟩;show vI (EY ys) ys i++[Rq ys i]=vI (EY ys) ys (i+1);exact(JJ hr).symm
    .show ys.length-(i+1)<ys.length-i;omega
   .have hr:EY ys i=false:=by rw[he];exact q3
    refine aY (i+1) ⟨by omega,hlt⟩ ?_ ?_
    .exact hd [] rfl (aI (aI (dG (by omega)) rfl) (aI rfl trivial)) ⟨⟨(zh hr).symm,nP⟩,trivial⟩
    .show ys.length-(i+1)<ys.length-i;omega
 .have hge:ys.length<=i:=geU q1;have hi':i<=ys.length:=hi;obtain rfl:i=ys.length:=by omega
  refine fin [(10000,20000)] (aI rfl ?_);exact⟨⟨rfl,nP⟩,trivial⟩
theorem ZM(ys:aS)(us:bW)(hl:ys.length<=1000000)(h0:0<ys.length)(hp:∀i:Nat,i<ys.length->mF ys i=true->0<(ah ys (i:Nat)).2.2.2.2.length):
  aA Tryz.prog 93 [.ptr 10000 0] (tA ys us) (.sl 10002) ([.row 10002 145 2 aK (uG ys) []]++tA ys us):=
 aA.Ey (ts2:=[.row 10002 145 2 aK (uG ys) []]) aG [64] UW (ZN ys hl h0 hp) rfl rfl rfl
end Go.Proofs.YtbdimbjclhmeoaaGreat
