
/- A net is the same as itself, by the reference's test. -/
import Derived.Test.YtnamelcmcikeoaaShort
import Derived.Test.YtnamelcmcikeoaaBl
set_option maxRecDepth 100000
set_option linter.unusedSimpArgs false
set_option linter.unusedVariables false
namespace Go.Proofs.Ytnamelcmcikeoaa
open Go Go.RowKit Go.Proofs Go.Tr
theorem KD:bS Try.prog 58=true:=by kernel_rfl
theorem Rt(xs:List Int):aP Try.prog 58 [.rsl (.int .i64) xs,.rsl (.int .i64) xs] (.bool true):=by
 refine aP.Rq KD fun hl=> ?_
 refine aP.intro (nt:=26) aS mixed KD Try.func58 rfl rfl rfl rfl rfl ?_;refine aI (fun q=> ?_) (fun _=> ?_)
 ·have q':(((xs.length:Nat):Int) !=(xs.length:Nat))=true:=q;simp at q'
 refine lp Nat (fun i=>[(5,.int .i64 (i:Nat))]) (fun _=>[]) (fun i=>xs.length-i) (fun i=>i≤xs.length) 0 (Nat.zero_le _) ?_ ?_
 ·exact Go.Tr.hd [] rfl (aI ⟨rfl,rfl⟩ trivial) trivial
 intro i hi;refine aI (fun q1=> ?_) (fun _=> ?_)
 ·have hlt:i<xs.length:=yX q1;have hi3:(0:Int)≤((i:Nat):Int)∧((i:Nat):Int)<(xs.length:Nat):=⟨by omega,by omega⟩;refine aI hi3 ?_;refine aI hi3 ?_;refine aI (by kernel_rfl) ?_;refine aI (fun q2=> ?_) (fun _=> ?_)
  ·have q':(elt 0 xs ((i:Nat):Int) !=elt 0 xs ((i:Nat):Int))=true:=q2;simp at q'
  refine aJ (i+1) hlt ?_ (by show xs.length-(i+1)<xs.length-i;omega);exact Go.Tr.hd [] rfl (aI ⟨IntWalk.i64_in _ (by omega),rfl⟩ trivial) trivial
 ·exact rfl
theorem Rs(a:ah)(hp:a.2.2.2.2.length≤1048576):aP Try.prog 39 [.rp aL a,.rp aL a] (.bool true):=by
 refine aP.intro (nt:=86) aS mixed (by kernel_rfl) Try.func39 rfl rfl rfl rfl rfl ?_;refine Or.inl (eI _ (aI (fun _=>Rt a.2.2.2.1) ?_));refine aI (by kernel_rfl) ?_;refine aI (fun q=> ?_) (fun _=> ?_)
 ·have q':(bif (bif (bif (bif a.1 !=a.1 then true else a.2.1 !=a.2.1)then true else a.2.2.1 !=a.2.2.1)then true else !true)then true else(((a.2.2.2.2.length:Nat):Int) !=((a.2.2.2.2.length:Nat):Int)))=true:=q;simp at q'
 refine lp Nat (fun i=>[(5,.int .i64 (i:Nat))]) (fun _=>[]) (fun i=>a.2.2.2.2.length-i) (fun i=>i≤a.2.2.2.2.length) 0 (Nat.zero_le _) ?_ ?_
 ·exact Go.Tr.hd [] rfl (aI ⟨rfl,rfl⟩ trivial) trivial
 intro i hi;refine aI (fun q1=> ?_) (fun _=> ?_)
 ·have hlt:i<a.2.2.2.2.length:=yX q1;have hi3:(0:Int)≤((i:Nat):Int)∧((i:Nat):Int)<(a.2.2.2.2.length:Nat):=⟨by omega,by omega⟩;refine aI hi3 ?_;refine aI hi3 ?_;refine aI ⟨by kernel_rfl,rfl⟩ ?_;refine aI (by kernel_rfl) ?_;refine aI (fun q2=> ?_) (fun _=> ?_)
  ·have q':(!bX [(elt (dflt aO) a.2.2.2.2 ((i:Nat):Int)).1,(elt (dflt aO) a.2.2.2.2 ((i:Nat):Int)).2] [(elt (dflt aO) a.2.2.2.2 ((i:Nat):Int)).1,(elt (dflt aO) a.2.2.2.2 ((i:Nat):Int)).2])=true:=q2;simp[bX]at q'
  refine aJ (i+1) hlt ?_ (by show a.2.2.2.2.length-(i+1)<a.2.2.2.2.length-i;omega);exact Go.Tr.hd [] rfl (aI ⟨IntWalk.i64_in _ (by omega),rfl⟩ trivial) trivial
 ·exact rfl
theorem KE:bS Try.prog 27=true:=by kernel_rfl
theorem Ru(xs:List ah)(hs:oK xs):aP Try.prog 27 [.rp BD xs,.rp BD xs] (.bool true):=by
 have hl:=hs.1;refine aP.intro (nt:=40) aS mixed KE Try.func27 rfl rfl rfl rfl rfl ?_;refine aI (by kernel_rfl) ?_;refine aI (fun q=> ?_) (fun _=> ?_)
 ·have q':(((xs.length:Nat):Int) !=(xs.length:Nat))=true:=q;simp at q'
 refine lp Nat (fun i=>[(5,.int .i64 (i:Nat))]) (fun _=>[]) (fun i=>xs.length-i) (fun i=>i≤xs.length) 0 (Nat.zero_le _) ?_ ?_
 ·exact Go.Tr.hd [] rfl (aI ⟨rfl,rfl⟩ trivial) trivial
 intro i hi;refine aI (fun q1=> ?_) (fun _=> ?_)
 ·have hlt:i<xs.length:=yX q1;have hi3:(0:Int)≤((i:Nat):Int)∧((i:Nat):Int)<(xs.length:Nat):=⟨by omega,by omega⟩;refine aI hi3 ?_;refine aI hi3 ?_;refine Or.inl (eI _ (aI (Rs (ak xs (i:Nat)) (hs.2 i).2) ?_));refine aI (by kernel_rfl) ?_;refine aI (fun q2=>by cases q2) (fun _=> ?_);refine aJ (i+1) hlt ?_ (by show xs.length-(i+1)<xs.length-i;omega);exact Go.Tr.hd [] rfl (aI ⟨IntWalk.i64_in _ (by omega),rfl⟩ trivial) trivial
 ·exact rfl
theorem CZ:bS Try.prog 11=true:=by kernel_rfl
theorem M9(xs:List ah)(hs:oK xs):aP Try.prog 11 [.agg [.rsl aL xs],.agg [.rsl aL xs]] (.bool true):=by
 have h:aH Try.prog 27 [.ptr 10000 0,.ptr 10001 0] [I5 10000 xs,I5 10001 xs] (.bool true) [I5 10000 xs,I5 10001 xs]:=
  aH.IJ aS [54,54] KE (Ru xs hs) rfl
 refine aP.intro (nt:=6) aS mixed CZ Try.func11 rfl rfl rfl rfl rfl ?_;refine Or.inr (eI _ (eI _ (aI h ?_)));exact rfl
end Go.Proofs.Ytnamelcmcikeoaa
