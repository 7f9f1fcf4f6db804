
/- Wires of a net, walked: WiresOf and PeerOf of both sides. -/
import Derived.Test.YtnamelcmcikeoaaShort
import Derived.Test.YtnamelcmcikeoaaBi
import Derived.Test.YtnamelcmcikeoaaRa
set_option maxRecDepth 100000
set_option linter.unusedSimpArgs false
set_option linter.unusedVariables false
namespace Go.Proofs.Ytnamelcmcikeoaa
open Go Go.RowKit Go.Proofs Go.Tr
abbrev bW:U:=.pair aO aO
theorem Gn{xs:List ah}(h:ow xs):Hu xs:=by
 have:=h.l2;refine⟨by omega,fun i hi=> ?_⟩;have h1:bJ (gA (ak xs (i:Nat)))=true:=h.wf i (by omega) (by omega);have h2:=(rX h1).2;simpa[gA]using h2
theorem MU{xs:List ah}{j:Nat}(h:j<(fP xs).length):aj xs (elt (dflt aO) (fP xs) ((j:Nat):Int)):=by
 rw[←kN];unfold elt;rw[show(((j:Nat):Int)).toNat=j by omega,List.getD_eq_getElem?_getD,List.getElem?_eq_getElem h];exact List.getElem_mem h
theorem Lb{α:Type}{d:α}{l:List α}{j:Nat}(h:j<l.length):l.take (j+1)=l.take j++[elt d l ((j:Nat):Int)]:=by
 rw[List.take_add_one,List.getElem?_eq_getElem h];unfold elt;rw[show(((j:Nat):Int)).toNat=j by omega,List.getD_eq_getElem?_getD,List.getElem?_eq_getElem h];rfl
abbrev I5(c:Nat)(xs:List ah):Tok:=.aN c 26 [.rsl aL xs]
theorem Pw{xs:List ah}(h:Hu xs):aH Try.prog 15 [.ptr 10000 0] [I5 10000 xs] (.sl 10001) [.row 10001 36 2 aO (fP xs) [],I5 10000 xs]:=
 aH.MQ (r2:=.sl 10001) (ts2:=[.row 10001 36 2 aO (fP xs) []]) aS [54] Ba (KL xs h) rfl rfl rfl
theorem KH{xs:List ah}{p:aC}(h:aj xs p):aH Try.prog 16 [.ptr 10000 0,vP p] [I5 10000 xs] (vP (aB xs p)) [I5 10000 xs]:=
 aH.IJ aS [54,0] KC (Ra xs p h) rfl
theorem P8(xs:List ah)(hok:ow xs):aH Try.prog 6 [.agg [.rsl aL xs]] [] (.tup [.sl 10000,.int .i64 0]) [.row 10000 38 4 bW (bP xs) []]:=by
 have hsm:=Gn hok;have hl4:=iW (pb:=fun _=>false) hsm.2 xs.length (Nat.le_refl _);have hl4:(fP xs).length≤4*xs.length:=hl4;have hl2:=hok.l2;refine aH.intro (nt:=30) aS mixed (by kernel_rfl) Try.func6 rfl rfl rfl rfl rfl rfl ?_;refine Or.inl (eI _ (aI (QX xs) ?_));refine aI (fun q=>by have q:(!mo (gN xs))=true:=q;rw[wG hok]at q;cases q) (fun _=> ?_);refine Or.inr (eI _ (eI _ (aI (Pw hsm) ?_)));refine lp Nat (fun j=>[(4,.sl 20000),(13,.int .i64 (j:Nat))]) (fun j=>[I5 1 xs,.row 11 36 2 aO (fP xs) [],.row 20000 38 4 bW (ou xs ((fP xs).take j)) []]) (fun j=>(fP xs).length-j) (fun j=>j≤(fP xs).length) 0 (Nat.zero_le _) ?_ ?_
 ·refine SC [⟨4,30000,38,4,bW⟩] [(20000,30000)] rfl (aI ⟨rfl,⟨rfl,rfl⟩,trivial⟩ ?_);exact⟨trivial,⟨rfl,trivial⟩,⟨rfl,nP⟩,⟨rfl,nP⟩,trivial⟩
 intro j hj;refine aI (fun q1=> ?_) (fun q1=> ?_)
 ·have hlt:j<(fP xs).length:=yX q1;have hpi:=MU hlt;have hwl:=DU xs ((fP xs).take j);have htk:((fP xs).take j).length≤j:=List.length_take_le _ _;have hst:=zT xs ((fP xs).take j) (elt (dflt aO) (fP xs) ((j:Nat):Int));rw[←Lb hlt]at hst;refine aI ⟨by omega,by omega⟩ ?_;refine Or.inr (eI _ (eI _ (aI (KH hpi) ?_)));refine Or.inl (eI _ (aI (R4 _ _) ?_));refine aI (fun q2=> ?_) (fun q2=> ?_)
  ·have q3:zD xs (elt (dflt aO) (fP xs) ((j:Nat):Int))=true:=q2;rw[q3]at hst;refine aI (by show(ou xs ((fP xs).take j)).length+1≤_;omega) ?_;refine aJ (j+1) hlt ?_ (by show(fP xs).length-(j+1)<(fP xs).length-j;omega);rw[hst];refine hd [(20000,27)] rfl (aI rfl ⟨⟨eu (by omega),rfl⟩,trivial⟩) ?_;exact⟨trivial,⟨rfl,trivial⟩,⟨rfl,nP⟩,⟨rfl,nP⟩,trivial⟩
  ·have q3:zD xs (elt (dflt aO) (fP xs) ((j:Nat):Int))=false:=q2;rw[q3]at hst;refine aJ (j+1) hlt ?_ (by show(fP xs).length-(j+1)<(fP xs).length-j;omega);rw[hst];refine hd [] rfl (aI rfl ⟨⟨eu (by omega),rfl⟩,trivial⟩) ?_;exact⟨trivial,⟨rfl,trivial⟩,⟨rfl,nP⟩,⟨rfl,nP⟩,trivial⟩
 have hge:j=(fP xs).length:=Nat.le_antisymm hj (Cu q1);subst hge;have hw:ou xs ((fP xs).take (fP xs).length)=bP xs:=by rw[List.take_length];rfl
 refine fin [(10000,20000)] (aI rfl ?_);exact⟨⟨hw,nP⟩,trivial⟩
theorem GD(xs:List ah)(hok:ow xs)(p:aC)(hp:aj xs p):aP Try.prog 8 [.agg [.rsl aL xs],vP p] (.tup [vP (aB xs p),.int .i64 0]):=by
 refine aP.intro (nt:=18) aS mixed (by kernel_rfl) Try.func8 rfl rfl rfl rfl rfl ?_;refine Or.inl (eI _ (aI (QX xs) ?_));refine aI (fun q=>by have q:(!mo (gN xs))=true:=q;rw[wG hok]at q;cases q) (fun _=> ?_);refine Or.inl (eI _ (aI (J9 xs p) ?_));refine aI (fun q=>by have q:(!hasB xs p)=true:=q;rw[xA.2 hp]at q;cases q) (fun _=> ?_);refine Or.inr (eI _ (eI _ (aI (KH hp) ?_)));exact rfl
theorem QY{xs:List ah}:aH Try.prog 18 [.ptr 10000 0] [I5 10000 xs] (.bool (mo (gN xs))) [I5 10000 xs]:=
 aH.IJ aS [54] Gt (Sm xs) rfl
theorem P6(xs:List ah)(i k:Nat)(S:List aC):ou xs (fJ (fun _=>false) i (k+1) S)=bif zD xs (((i:Nat):Int),((k:Nat):Int))then ou xs (fJ (fun _=>false) i k S)++[((((i:Nat):Int),((k:Nat):Int)),aB xs (((i:Nat):Int),((k:Nat):Int)))]else ou xs (fJ (fun _=>false) i k S):=by
 rw[Ep,zT]
theorem KF:bS Try.prog 19=true:=by kernel_rfl
theorem Sz(xs:List ah)(hx:Hu xs):aH Try.prog 19 [.rp BD xs] [] (.sl 10000) [.row 10000 38 4 bW (bP xs) []]:=by
 obtain⟨hl,hp⟩:=hx;have hlen:=iW (pb:=fun _=>false) hp;refine aH.intro (nt:=63) aS mixed KF Try.func19 rfl rfl rfl rfl rfl rfl ?_;refine lp Nat (fun i=>[(3,.sl 20000),(4,.int .i64 (i:Nat))]) (fun i=>[.row 20000 38 4 bW (ou xs (eB (fun _=>false) xs i)) []]) (fun i=>xs.length-i) (fun i=>i≤xs.length) 0 (Nat.zero_le _) ?_ ?_
 ·exact hd [(20000,7)] rfl (aI rfl ⟨⟨rfl,rfl⟩,trivial⟩) ⟨⟨rfl,nP⟩,trivial⟩
 intro i hi;refine aI (fun q1=> ?_) (fun q1=> ?_)
 ·have hlt:=yX q1;have hpi:=hp i hlt;have hli:=hlen i hi;refine lp Nat (fun k=>[(3,.sl 21000),(5,.int .i64 (k:Nat))]) (fun k=>[.row 21000 38 4 bW (ou xs (fJ (fun _=>false) i k (eB (fun _=>false) xs i))) []]) (fun k=>(ak xs (i:Nat)).2.2.2.2.length-k) (fun k=>k≤(ak xs (i:Nat)).2.2.2.2.length) 0 (Nat.zero_le _) ?_ ?_
  ·exact hd [(21000,20000)] rfl (aI rfl ⟨⟨rfl,rfl⟩,trivial⟩) ⟨⟨rfl,nP⟩,trivial⟩
  intro k hk;refine aI ⟨by omega,by omega⟩ ?_;refine aI (fun q2=> ?_) (fun q2=> ?_)
  ·have hk2:k<(ak xs (i:Nat)).2.2.2.2.length:=yX q2;have hll:=mF (fun _=>false) i (eB (fun _=>false) xs i) k;have hwl:=DU xs (fJ (fun _=>false) i k (eB (fun _=>false) xs i));have hst:=P6 xs i k (eB (fun _=>false) xs i);have hi3:(0:Int)≤((i:Nat):Int)∧((i:Nat):Int)<(xs.length:Nat):=⟨by omega,by omega⟩;have hk3:(0:Int)≤((k:Nat):Int)∧((k:Nat):Int)<((ak xs (i:Nat)).2.2.2.2.length:Nat):=⟨by omega,by omega⟩;refine aI hi3 ?_;refine aI hk3 ?_;refine Or.inl (eI _ (aI (R5 (((i:Nat):Int),((k:Nat):Int)) (aB xs (((i:Nat):Int),((k:Nat):Int)))) ?_))
   refine aI (by kernel_rfl) ?_;refine aI (fun q3=> ?_) (fun q3=> ?_)
   ·have q4:zD xs (((i:Nat):Int),((k:Nat):Int))=true:=q3;rw[q4]at hst;refine aI hi3 ?_;refine aI hk3 ?_;refine aI (by show(ou xs (fJ (fun _=>false) i k (eB (fun _=>false) xs i))).length+1≤_;omega) ?_;refine aI (by kernel_rfl) ?_;refine aJ (k+1) hk2 ?_ (by show(ak xs (i:Nat)).2.2.2.2.length-(k+1)<(ak xs (i:Nat)).2.2.2.2.length-k;omega);rw[hst];exact hd [(21000,61)] rfl (aI rfl ⟨⟨eu (by omega),rfl⟩,trivial⟩) ⟨⟨rfl,nP⟩,trivial⟩
   ·have q4:zD xs (((i:Nat):Int),((k:Nat):Int))=false:=q3;rw[q4]at hst;refine aJ (k+1) hk2 ?_ (by show(ak xs (i:Nat)).2.2.2.2.length-(k+1)<(ak xs (i:Nat)).2.2.2.2.length-k;omega);rw[hst];exact hd [] rfl (aI rfl ⟨⟨eu (by omega),rfl⟩,trivial⟩) ⟨⟨rfl,nP⟩,trivial⟩
  have hk2:(ak xs (i:Nat)).2.2.2.2.length≤k:=Cu q2;have hke:k=(ak xs (i:Nat)).2.2.2.2.length:=Nat.le_antisymm hk hk2;subst hke;refine aJ (i+1) hlt ?_ (by show xs.length-(i+1)<xs.length-i;omega);exact hd [(20000,21000)] rfl (aI rfl ⟨⟨eu (by omega),rfl⟩,trivial⟩) ⟨⟨rfl,nP⟩,trivial⟩
 have hge:i=xs.length:=Nat.le_antisymm hi (Cu q1);subst hge;exact fin [(10000,20000)] (aI rfl ⟨⟨rfl,nP⟩,trivial⟩)
theorem SA{xs:List ah}(h:Hu xs):aH Try.prog 19 [.ptr 10000 0] [I5 10000 xs] (.sl 10001) [.row 10001 38 4 bW (bP xs) [],I5 10000 xs]:=
 aH.MQ (r2:=.sl 10001) (ts2:=[.row 10001 38 4 bW (bP xs) []]) aS [54] KF (Sz xs h) rfl rfl rfl
theorem P9(xs:List ah)(hok:ow xs):aH Try.prog 7 [.agg [.rsl aL xs]] [] (.tup [.sl 10000,.int .i64 0]) [.row 10000 38 4 bW (bP xs) []]:=by
 refine aH.intro (nt:=7) aS mixed (by kernel_rfl) Try.func7 rfl rfl rfl rfl rfl rfl ?_;refine Or.inr (eI _ (eI _ (aI QY ?_)));refine aI (fun q=>by have q:(!mo (gN xs))=true:=q;rw[wG hok]at q;cases q) (fun _=> ?_);refine Or.inr (eI _ (eI _ (aI (SA (Gn hok)) ?_)));refine fin [(10000,6)] (aI rfl ?_);exact⟨⟨rfl,nP⟩,trivial⟩
end Go.Proofs.Ytnamelcmcikeoaa
