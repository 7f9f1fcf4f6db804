
/- Names: both sides. -/
import Derived.Test.YtpdipfohnpopmaaDoorAa
set_option linter.unusedSimpArgs false
set_option linter.unusedVariables false
namespace Go.Proofs.YtpdipfohnpopmaaDoor
open Go Go.RowKit Go.Proofs Go.Tr
theorem vM(s:ByteArray)(hs:s.size<=1000000):aD Tryd.prog 8 [.raw (.string s)] (.bool (dF s)):=by
 refine aD.intro (nt:=32) aZ mixed (by kernel_rfl) Tryd.func8 rfl rfl rfl rfl rfl ?_;refine aI (fun q=> ?_) ?_
 .refine⟨Int.le_refl 0,?_⟩;cases h:decide (((s.size:Nat):Int)<1)with
  |true=>rw[h]at q;cases q
  |false=>have:=of_decide_eq_false h;omega
 refine oZ (fun _=>Du (aG s 0)) ?_;refine oZ (fun _=>EN s) ?_;refine aI (fun q=> ?_) (fun q=> ?_)
 .have q1:tQ s=true:=q;show false=dF s;unfold dF;rw[q1];rfl
 have q1:tQ s=false:=q;have hn:dF s=eP s s.size:=by unfold dF;rw[q1];rfl
 refine lp Nat (fun i=>[(23,.int .i64 (i:Nat))]) (fun _=>[]) (fun i=>s.size-i) (fun i=>i<=s.size/\eP s i=true) 0 ⟨Nat.zero_le _,rfl⟩ ?_ ?_
 .exact Go.Tr.hd [] rfl (aI (aI rfl rfl) trivial) trivial
 intro i hi;have hi:i<=s.size/\eP s i=true:=hi;refine aI (fun q1=> ?_) (fun q1=> ?_)
 .have hlt:i<s.size:=Ei q1;refine aI (show(0:Int)<=((i:Nat):Int)/\((i:Nat):Int)<(s.size:Nat) from⟨by omega,by omega⟩) ?_;refine oZ (Eb (aG s ((i:Nat):Int))) ?_;refine aI (fun q2=> ?_) (fun q2=> ?_)
  .have q3:(!iL (aG s ((i:Nat):Int)))=true:=q2;show false=dF s;rw[hn];cases h:eP s s.size with
   |false=>rfl
   |true=>rw[kX h hlt]at q3;cases q3
  .have q3:(!iL (aG s ((i:Nat):Int)))=false:=q2;refine jv (i+1) (show i+1<=s.size/\eP s (i+1)=true from⟨by omega,by rw[nS,hi.2];simpa using q3⟩) ?_ (by show s.size-(i+1)<s.size-i;omega);exact Go.Tr.hd [] rfl (aI (aI (Em (by omega)) rfl) trivial) trivial
 .have hge:s.size<=i:=Ef q1;show true=dF s;rw[hn];obtain rfl:i=s.size:=by omega
  exact hi.2.symm
theorem mo{s:ByteArray}(h:dF s=true):0<s.size:=by
 unfold dF tQ at h;cases h1:decide (((s.size:Nat):Int)<1)with
 |true=>rw[h1]at h;cases h
 |false=>have:=of_decide_eq_false h1;omega
def xR(s:ByteArray):Bool:=bif (bif (bif decide (((s.size:Nat):Int)<1)then true else decide ((12:Int)<((s.size:Nat):Int)))then true else !l7 (aG s 0))then true else kT s
theorem Al{c:Int}(h:kS c=true):l7 c=false:=by
 unfold kS at h;unfold l7 j6 tV
 have h1:(48:Int)<=c/\c<=57:=by
  cases h2:decide ((48:Int)<=c)with
  |false=>rw[h2]at h;cases h
  |true=>rw[h2]at h;exact⟨of_decide_eq_true h2,of_decide_eq_true h⟩
 rw[decide_eq_false (show ¬(97:Int)<=c by omega),decide_eq_false (show ¬(65:Int)<=c by omega)];rfl
theorem yU(s:ByteArray):(bif xR s then false else eP s s.size)=dF s:=by
 unfold dF xR tQ;cases h1:decide (((s.size:Nat):Int)<1)with
 |true=>rfl
 |false=>
  cases h2:decide ((12:Int)<((s.size:Nat):Int))with
  |true=>rfl
  |false=>
   have hp:0<s.size:=by have:=of_decide_eq_false h1;omega
   cases h3:kS (aG s 0)with
   |true=>rw[Al h3];rfl
   |false=>
    cases h4:l7 (aG s 0)with
    |true=>rfl
    |false=>
     have:eP s s.size=false:=by
      cases h:eP s s.size with
      |false=>rfl
      |true=>
       have h5:=kX h hp;unfold iL at h5;rw[show((0:Nat):Int)=0 from rfl,h4,h3]at h5;cases h5
     cases kT s<;>simp[this]
theorem Cn(s:ByteArray)(hs:s.size<=1000000):aD Tryd.prog 10 [.raw (.string s)] (.bool (dF s)):=by
 rw[<-yU];refine aD.intro (nt:=40) aZ mixed (by kernel_rfl) Tryd.func10 rfl rfl rfl rfl rfl ?_;refine aI (fun q=> ?_) ?_
 .refine⟨Int.le_refl 0,?_⟩;cases h:decide (((s.size:Nat):Int)<1)with
  |true=>rw[h]at q;cases q
  |false=>have:=of_decide_eq_false h;omega
 refine oZ (fun _=>Dx (aG s 0)) ?_;refine oZ (fun _=>kwS s) ?_;refine aI (fun q=> ?_) (fun q=> ?_)
 .have q1:xR s=true:=q;show false=_;rw[q1];rfl
 have q1:xR s=false:=q;have hn:(bif xR s then false else eP s s.size)=eP s s.size:=by rw[q1];rfl
 rw[hn];refine lp Nat (fun i=>[(3,.int .i64 (i:Nat))]) (fun _=>[]) (fun i=>s.size-i) (fun i=>i<=s.size/\eP s i=true) 0 ⟨Nat.zero_le _,rfl⟩ ?_ ?_
 .exact Go.Tr.hd [] rfl (aI (aI rfl rfl) trivial) trivial
 intro i hi;have hi:i<=s.size/\eP s i=true:=hi;refine aI (fun q1=> ?_) (fun q1=> ?_)
 .have hlt:i<s.size:=Ei q1;have hb:(0:Int)<=((i:Nat):Int)/\((i:Nat):Int)<(s.size:Nat):=⟨by omega,by omega⟩;refine aI hb ?_;refine oZ (Dx (aG s ((i:Nat):Int))) ?_;refine aI (fun _=>hb) ?_;refine oZ (fun _=>Er (aG s ((i:Nat):Int))) ?_
  have hw:iL (aG s ((i:Nat):Int))= !(bif !l7 (aG s ((i:Nat):Int))then !kS (aG s ((i:Nat):Int))else false):=by
   unfold iL;cases l7 (aG s ((i:Nat):Int))<;>cases kS (aG s ((i:Nat):Int))<;>rfl
  refine aI (fun q2=> ?_) (fun q2=> ?_)
  .have q3:(bif !l7 (aG s ((i:Nat):Int))then !kS (aG s ((i:Nat):Int))else false)=true:=q2;rw[q3]at hw;show false=eP s s.size;cases h:eP s s.size with
   |false=>rfl
   |true=>rw[kX h hlt]at hw;cases hw
  .have q3:(bif !l7 (aG s ((i:Nat):Int))then !kS (aG s ((i:Nat):Int))else false)=false:=q2;rw[q3]at hw;refine jv (i+1) (show i+1<=s.size/\eP s (i+1)=true from⟨by omega,by rw[nS,hi.2,hw];rfl⟩) ?_ (by show s.size-(i+1)<s.size-i;omega);exact Go.Tr.hd [] rfl (aI (aI (Em (by omega)) rfl) trivial) trivial
 .have hge:s.size<=i:=Ef q1;show true=eP s s.size;obtain rfl:i=s.size:=by omega
  exact hi.2.symm
def yR(s:ByteArray):Bool:=bif dF s then j6 (aG s 0)else false
def zP(s:ByteArray):Bool:=bif dF s then tV (aG s 0)else false
theorem Ew(s:ByteArray)(hs:s.size<=1000000):aD Tryd.prog 6 [.raw (.string s)] (.bool (yR s)):=by
 refine aD.intro (nt:=10) aZ mixed (by kernel_rfl) Tryd.func6 rfl rfl rfl rfl rfl ?_;refine oZ (vM s hs) ?_;refine aI (fun q=>⟨Int.le_refl 0,by have:=mo q;omega⟩) ?_;refine oZ (fun _=>zH (aG s 0)) ?_;exact rfl
theorem EG(s:ByteArray)(hs:s.size<=1000000):aD Tryd.prog 7 [.raw (.string s)] (.bool (zP s)):=by
 refine aD.intro (nt:=10) aZ mixed (by kernel_rfl) Tryd.func7 rfl rfl rfl rfl rfl ?_;refine oZ (vM s hs) ?_;refine aI (fun q=>⟨Int.le_refl 0,by have:=mo q;omega⟩) ?_;refine oZ (fun _=>Dn (aG s 0)) ?_;exact rfl
theorem zV(s:ByteArray):(bif (bif (bif (dF s !=(bif yR s then true else zP s))then true else(bif yR s then zP s else false))then true else(bif kT s then(bif yR s then true else zP s)else false))then true else(dF s !=dF s))=false:=by
 unfold yR zP;cases h:dF s with
 |false=>cases kT s<;>rfl
 |true=>
  have hp:=mo h;unfold dF at h;cases hb:tQ s with
  |true=>rw[hb]at h;cases h
  |false=>
   rw[hb]at h;have h1:=kX h hp;rw[show((0:Nat):Int)=0 from rfl]at h1;unfold tQ at hb;cases h3:kS (aG s 0)with
   |true=>rw[h3]at hb;cases hx:(bif decide (((s.size:Nat):Int)<1)then true else decide ((12:Int)<((s.size:Nat):Int)))<;>rw[hx]at hb<;>cases hb
   |false=>
    cases hk:kT s with
    |true=>rw[h3,hk]at hb;cases hx:(bif decide (((s.size:Nat):Int)<1)then true else decide ((12:Int)<((s.size:Nat):Int)))<;>rw[hx]at hb<;>cases hb
    |false=>
     unfold iL at h1;rw[h3]at h1;unfold l7 at h1;cases hs:j6 (aG s 0)with
     |true=>
      have hc:tV (aG s 0)=false:=by
       unfold j6 at hs;unfold tV;cases h2:decide ((97:Int)<=aG s 0)with
       |false=>rw[h2]at hs;cases hs
       |true=>
        have:=of_decide_eq_true h2;rw[decide_eq_false (show ¬aG s 0<=90 by omega)];cases decide ((65:Int)<=aG s 0)<;>rfl
      rw[hc];rfl
     |false=>
      rw[hs]at h1;cases hc:tV (aG s 0)with
      |true=>rfl
      |false=>rw[hc]at h1;cases h1
end Go.Proofs.YtpdipfohnpopmaaDoor
