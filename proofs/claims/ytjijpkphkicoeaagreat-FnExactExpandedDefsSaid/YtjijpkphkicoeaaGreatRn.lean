
/- One interaction of the program's and of the reference's nets. -/
import Derived.Test.YtjijpkphkicoeaaGreatShort
import Derived.Test.YtjijpkphkicoeaaGreatIo
import Derived.Test.YtjijpkphkicoeaaGreatJh
import Derived.Test.YtjijpkphkicoeaaGreatNz
import Derived.Test.YtjijpkphkicoeaaGreatRa
set_option maxRecDepth 100000
set_option linter.unusedSimpArgs false
set_option linter.unusedVariables false
set_option linter.unusedSectionVars false
namespace Go.Proofs.YtjijpkphkicoeaaGreat
open Go Go.RowKit Go.Proofs Go.Tr
section
variable {bk:List (List aj)}{kv:List (Int×Bool)}{xs ys:List aj}
end
end Go.Proofs.YtjijpkphkicoeaaGreat
namespace Go.Proofs.YtjijpkphkicoeaaGreat
open Go Go.RowKit Go.Proofs Go.Tr
theorem U2(xs:List aj)(h:bE xs):aA Tryz.prog 70 [.rp aR xs] [] (.agg [.sl 10000]) [.row 10000 131 5 aD xs []]:=by
 obtain⟨hl,ha⟩:=h;refine aA.intro (nt:=28) aH mixed (by kernel_rfl) Tryz.func70 rfl rfl rfl rfl rfl rfl ?_;refine lp Nat (fun i=>[(4,.int .i64 (i:Nat))]) (fun i=>[.bV 2 30 [.raw (.slice none 0 0)],.bV 3 30 [.sl 20000],.row 20000 131 5 aD (xs.take i) []]) (fun i=>xs.length-i) (fun i=>i≤xs.length) 0 (Nat.zero_le _) ?_ ?_
 ·exact Nt [⟨1000003,30000,131,5,aD⟩] [(20000,30000)] rfl (aI (aI (aI rfl rfl) trivial) ⟨trivial,⟨rfl,trivial⟩,trivial,⟨rfl,trivial⟩,⟨rfl,nP⟩,trivial⟩)
 intro i hi;refine aI (fun q1=> ?_) (fun q1=> ?_)
 ·have hlt:i<xs.length:=by simpa using q1
  refine aI (by show(0:Int)≤(i:Nat)∧((i:Nat):Int)<(xs.length:Nat);omega) ?_;refine Or.inr (eI _ (eI _ (aI (IB (ah xs i) (ha i).1 (ha i).2) ?_)));refine aI (by show(xs.take i).length+1≤_;rw[List.length_take];omega) ?_;refine aI (by kernel_rfl) ?_;refine aP (i+1) hlt ?_ ?_
  ·refine hd [(20000,25)] rfl (aI (aI (dB (by omega)) rfl) trivial) ⟨trivial,⟨rfl,trivial⟩,trivial,⟨rfl,trivial⟩,⟨?_,nP⟩,trivial⟩;show xs.take i++[ah xs i]=xs.take (i+1);rw[List.take_add_one,qB hlt];unfold ah elt;rw[qK,qC,qB hlt];rfl
  ·show xs.length-(i+1)<xs.length-i;omega
 ·have hge:xs.length≤i:=by simpa using q1
  refine fin [(10000,20000)] (aI rfl ?_);refine⟨⟨?_,nP⟩,trivial⟩;show xs.take i=xs;rw[qN hge]
section
variable (bk:List (List aj))(xs:List aj)(es:List bZ)
variable (hB:lG (bk.map gN)=true)(hN:iE (gN xs)=true)
include hB hN
end
end Go.Proofs.YtjijpkphkicoeaaGreat
namespace Go.Proofs.YtjijpkphkicoeaaGreat
open Go Go.RowKit Go.Proofs Go.Tr
section
variable (bk:List (List aj))(xs:List aj)(a b:List bZ)
end
end Go.Proofs.YtjijpkphkicoeaaGreat
namespace Go.Proofs.YtjijpkphkicoeaaGreat
open Go Go.RowKit Go.Proofs Go.Tr
def Av(ys:List aj)(i:Nat):List Int:=(List.range i).map fun j:Nat=>((fM ys j:Nat):Int)
theorem Ke(ys:List aj)(i:Nat):(Av ys i).length=i:=by unfold Av;simp
theorem F4(ys:List aj)(i:Nat):Av ys (i+1)=Av ys i++[((fM ys i:Nat):Int)]:=by unfold Av;rw[List.range_succ,qZ];rfl
theorem UR(ys:List aj){n:Nat}{x:Int}(h0:0≤x)(h1:x<((n:Nat):Int)):elt 0 (Av ys n) x=kr ys x:=by
 unfold elt Av kr;rw[qC,List.getElem?_map,List.getElem?_range (by omega)];rfl
theorem Dx(ys:List aj):∀n:Nat,(dS ys n).length≤n
 |0=>Nat.le_refl 0
 |n+1=>by
  unfold dS;have:=Dx ys n;cases bS ys n
  ·simp only[qH];omega
  ·simp only[qG,qA,qJ];omega
section
variable (bk:List (List aj))(xs:List aj)(a:List bZ)
end
end Go.Proofs.YtjijpkphkicoeaaGreat
namespace Go.Proofs.YtjijpkphkicoeaaGreat
open Go Go.RowKit Go.Proofs Go.Tr
section
variable (bk:List (List aj))(xs:List aj)(es:List bZ)
variable (hB:lG (bk.map gN)=true)(hN:iE (gN xs)=true)
include hB hN
end
end Go.Proofs.YtjijpkphkicoeaaGreat
namespace Go.Proofs.YtjijpkphkicoeaaGreat
open Go Go.RowKit Go.Proofs Go.Tr
theorem NZ:bH Tryz.prog 101=true:=by kernel_rfl
set_option maxHeartbeats 4000000 in
theorem XI(xs:List aj)(ord:List Int)(hs:∀j:Nat,j<ord.length→(ah xs (elt 0 ord (j:Nat))).2.2.2.1.length≤1048576∧(ah xs (elt 0 ord (j:Nat))).2.2.2.2.length≤1048576)(hl:ord.length≤1000000)(ho:∀j:Nat,j<ord.length→0≤elt 0 ord (j:Nat)∧elt 0 ord (j:Nat)<(xs.length:Nat)):aA Tryz.prog 101 [.rp aR xs,.rsl (.int .i64) ord] [] (.agg [.sl 10000]) [.row 10000 131 5 aD (sG xs ord ord.length) []]:=by
 refine aA.intro (nt:=67) aH mixed NZ Tryz.func101 rfl rfl rfl rfl rfl rfl ?_;refine lp Nat (fun i=>[(16,.int .i64 (i:Nat))]) (fun i=>[.bV 4 30 [.raw (.slice none 0 0)],.map 13 (.int .i64) (MB ord i)]) (fun i=>ord.length-i) (fun i=>i≤ord.length) 0 (Nat.zero_le _) ?_ ?_
 ·exact hd [] rfl (aI (aI rfl rfl) trivial) ⟨trivial,⟨rfl,trivial⟩,rfl,trivial⟩
 intro i hi;refine aI (fun q1=> ?_) (fun q1=> ?_)
 ·have hlt:i<ord.length:=by
   have q2:decide (((i:Nat):Int)<(ord.length:Nat))=true:=q1;simp only[qQ]at q2;omega
  refine aI (show 0≤((i:Nat):Int)∧((i:Nat):Int)<(ord.length:Nat) by omega) ?_;refine aP (i+1) hlt ?_ ?_
  ·exact hd [] rfl (aI (aI (dB (by omega)) rfl) trivial) ⟨trivial,⟨rfl,trivial⟩,rfl,trivial⟩
  ·show ord.length-(i+1)<ord.length-i;omega
 have hie:i=ord.length:=by
  have q2:decide (((i:Nat):Int)<(ord.length:Nat))=false:=q1;simp only[decide_eq_false_iff_not]at q2;have hi':i≤ord.length:=hi;omega
 subst hie;refine lp Nat (fun k=>[(27,.int .i64 (k:Nat))]) (fun k=>[.bV 4 30 [.raw (.slice none 0 0)],.map 13 (.int .i64) (MB ord ord.length),.bV 8 30 [.sl 20000],.row 20000 131 5 aD (sG xs ord k) []]) (fun k=>ord.length-k) (fun k=>k≤ord.length) 0 (Nat.zero_le _) ?_ ?_
 ·exact Nt [⟨1000008,30000,131,5,aD⟩] [(20000,30000)] rfl (aI (aI (aI rfl rfl) trivial) ⟨trivial,⟨rfl,trivial⟩,rfl,trivial,⟨rfl,trivial⟩,⟨rfl,nP⟩,trivial⟩)
 intro k hk;refine aI (fun q1=> ?_) (fun q1=> ?_)
 ·have hlt:k<ord.length:=by
   have q2:decide (((k:Nat):Int)<(ord.length:Nat))=true:=q1;simp only[qQ]at q2;omega
  have hok:=ho k hlt;have hrl:(sG xs ord k).length=k:=by rw[DN _ _ _ (by omega),qV,List.length_take];omega
  refine aI (show 0≤((k:Nat):Int)∧((k:Nat):Int)<(ord.length:Nat) by omega) ?_;refine aI hok ?_;have hsk:=hs k hlt;generalize hx:ah xs (elt 0 ord ((k:Nat):Int))=a at*
  have hcp:aA Tryz.prog 157 [.agg [.int .i64 (ah xs (elt 0 ord ((k:Nat):Int))).1,.int .i64 (ah xs (elt 0 ord ((k:Nat):Int))).2.1,.int .i64 (ah xs (elt 0 ord ((k:Nat):Int))).2.2.1,.rsl (.int .i64) (ah xs (elt 0 ord ((k:Nat):Int))).2.2.2.1,.rsl aM (ah xs (elt 0 ord ((k:Nat):Int))).2.2.2.2]] [] (.agg [.int .i64 a.1,.int .i64 a.2.1,.int .i64 a.2.2.1,.sl 10000,.sl 10001]) [.row 10000 2 1 (.int .i64) a.2.2.2.1 [],.row 10001 102 2 aM a.2.2.2.2 []]:=by
   rw[hx];exact Cv a hsk.1 hsk.2
  refine Or.inr (eI _ (eI _ (aI hcp ?_)));refine lp Nat (fun j=>[(42,.int .i64 (j:Nat))]) (fun j=>[.bV 11 131 [.int .i64 a.1,.int .i64 a.2.1,.int .i64 a.2.2.1,.sl 38,.sl 21001],.bV 4 30 [.raw (.slice none 0 0)],.map 13 (.int .i64) (MB ord ord.length),.bV 8 30 [.sl 21000],.row 21000 131 5 aD (sG xs ord k) [],.row 38 2 1 (.int .i64) a.2.2.2.1 [],.row 21001 102 2 aM (iV (Ov ord) a.2.2.2.2 j) []]) (fun j=>a.2.2.2.2.length-j) (fun j=>j≤a.2.2.2.2.length) 0 (Nat.zero_le _) ?_ ?_
  ·exact hd [(21000,20000),(21001,1000038)] rfl (aI (aI rfl rfl) trivial) ⟨trivial,⟨⟨rfl,rfl⟩,⟨rfl,rfl⟩,⟨rfl,rfl⟩,rfl,rfl,trivial⟩,trivial,⟨rfl,trivial⟩,rfl,trivial,⟨rfl,trivial⟩,⟨rfl,nP⟩,⟨rfl,nP⟩,⟨rfl,nP⟩,trivial⟩
  intro j hj;have hj':j≤a.2.2.2.2.length:=hj;refine aI (fun q3=> ?_) (fun q3=> ?_)
  ·have hlt2:j<a.2.2.2.2.length:=by
    have q4:decide (((j:Nat):Int)<(a.2.2.2.2.length:Nat))=true:=q3;simp only[qQ]at q4;omega
   have hbnd:0≤((j:Nat):Int)∧((j:Nat):Int)<((iV (Ov ord) a.2.2.2.2 j).length:Nat):=by rw[xw];omega
   refine aI hbnd ?_;refine aI hbnd ?_;refine aI (by kernel_rfl) ?_;refine aP (j+1) hlt2 ?_ ?_
   ·refine hd [] rfl (aI (aI (dB (by omega)) rfl) trivial) ⟨trivial,⟨⟨rfl,rfl⟩,⟨rfl,rfl⟩,⟨rfl,rfl⟩,rfl,rfl,trivial⟩,trivial,⟨rfl,trivial⟩,rfl,trivial,⟨rfl,trivial⟩,⟨rfl,nP⟩,⟨rfl,nP⟩,⟨?_,nP⟩,trivial⟩;show(iV (Ov ord) a.2.2.2.2 j).set j (Ov ord (elt (dflt aM) (iV (Ov ord) a.2.2.2.2 j) ((j:Nat):Int)).1,(elt (dflt aM) (iV (Ov ord) a.2.2.2.2 j) ((j:Nat):Int)).2)=iV (Ov ord) a.2.2.2.2 (j+1);rw[DV hlt2,DU hlt2]
   ·show a.2.2.2.2.length-(j+1)<a.2.2.2.2.length-j;omega
  have hje:j=a.2.2.2.2.length:=by
   have q4:decide (((j:Nat):Int)<(a.2.2.2.2.length:Nat))=false:=q3;simp only[decide_eq_false_iff_not]at q4;omega
  refine aI (show(sG xs ord k).length+1≤1073741824 by omega) ?_;refine aP (k+1) hlt ?_ ?_
  ·refine hd [(20000,63)] rfl (aI (aI (dB (by omega)) rfl) trivial) ⟨trivial,⟨rfl,trivial⟩,rfl,trivial,⟨rfl,trivial⟩,⟨?_,nP⟩,trivial⟩;show sG xs ord k++[(a.1,a.2.1,a.2.2.1,a.2.2.2.1,iV (Ov ord) a.2.2.2.2 j)]=sG xs ord k++[rH (Ov ord) (ah xs (elt 0 ord ((k:Nat):Int)))];rw[hx,hje,Gh];rfl
  ·show ord.length-(k+1)<ord.length-k;omega
 have hke:k=ord.length:=by
  have q2:decide (((k:Nat):Int)<(ord.length:Nat))=false:=q1;simp only[decide_eq_false_iff_not]at q2;have hk':k≤ord.length:=hk;omega
 subst hke;refine fin [(10000,20000)] (aI rfl ?_);exact⟨⟨rfl,nP⟩,trivial⟩
theorem XJ(xs:List aj)(us:List Value)(bk:List (List aj))(kv:List (Int×Bool))(ord:List Int)(hs:∀j:Nat,j<ord.length→(ah xs (elt 0 ord (j:Nat))).2.2.2.1.length≤1048576∧(ah xs (elt 0 ord (j:Nat))).2.2.2.2.length≤1048576)(hl:ord.length≤1000000)(ho:∀j:Nat,j<ord.length→0≤elt 0 ord (j:Nat)∧elt 0 ord (j:Nat)<(xs.length:Nat)):
  aA Tryz.prog 101 [.ptr 10000 0,.sl 10003] (tW xs us bk kv++[.row 10003 2 1 (.int .i64) ord []]) (.agg [.sl 10004]) ([.row 10004 131 5 aD (sG xs ord ord.length) []]++(tW xs us bk kv++[.row 10003 2 1 (.int .i64) ord []])):=
 aA.yC (ts2:=[.row 10004 131 5 aD (sG xs ord ord.length) []]) aH [61,0] NZ (XI xs ord hs hl ho) rfl rfl rfl
theorem Gc(kv:List (Int×Bool)):∀n:Nat,(eF kv n).length≤n
 |0=>Nat.le_refl 0
 |n+1=>by
  unfold eF;have:=Gc kv n;cases bn false kv ((n:Nat):Int)
  ·simp only[Bool.not_false,qG,qA,qJ];omega
  ·simp only[Bool.not_true,qH];omega
theorem Dt(kv:List (Int×Bool)):∀n:Nat,∀z∈eF kv n,0≤z∧z<((n:Nat):Int)
 |0,z,h=>by cases h
 |n+1,z,h=>by
  unfold eF at h;cases hg:bn false kv ((n:Nat):Int)with
  |false=>
   rw[hg]at h;simp only[Bool.not_false,qG,qT,qX]at h;rcases h with h|h
   ·have:=Dt kv n z h;omega
   ·omega
  |true=>
   rw[hg]at h;simp only[Bool.not_true,qH]at h;have:=Dt kv n z h;omega
theorem Ko(kv:List (Int×Bool))(n:Nat){j:Nat}(h:j<(eF kv n).length):0≤elt 0 (eF kv n) (j:Nat)∧elt 0 (eF kv n) (j:Nat)<((n:Nat):Int):=by
 refine Dt kv n _ ?_;unfold elt;rw[qK,qC,qB h];exact List.getElem_mem h
def BG(xs:List aj)(kv:List (Int×Bool)):List aj:=sG xs (eF kv xs.length) (eF kv xs.length).length
def x9(xs:List aj)(kv:List (Int×Bool)):Prop:=∀i:Nat,i<xs.length→bn false kv ((i:Nat):Int)=false→(ah xs (i:Nat)).2.2.2.1.length≤1048576∧(ah xs (i:Nat)).2.2.2.2.length≤1048576
theorem yD(kv:List (Int×Bool)):∀n:Nat,∀z∈eF kv n,bn false kv z=false
 |0,z,h=>by cases h
 |n+1,z,h=>by
  unfold eF at h;cases hg:bn false kv ((n:Nat):Int)with
  |false=>
   rw[hg]at h;simp only[Bool.not_false,qG,qT,qX]at h;rcases h with h|h
   ·exact yD kv n z h
   ·rw[h];exact hg
  |true=>
   rw[hg]at h;simp only[Bool.not_true,qH]at h;exact yD kv n z h
theorem x9.ord{xs:List aj}{kv:List (Int×Bool)}(h:x9 xs kv)(j:Nat)(hj:j<(eF kv xs.length).length):(ah xs (elt 0 (eF kv xs.length) (j:Nat))).2.2.2.1.length≤1048576∧(ah xs (elt 0 (eF kv xs.length) (j:Nat))).2.2.2.2.length≤1048576:=by
 have h1:=Ko kv xs.length hj
 have h2:bn false kv (elt 0 (eF kv xs.length) (j:Nat))=false:=by
  refine yD kv xs.length _ ?_;unfold elt;rw[qK,qC,qB hj];exact List.getElem_mem hj
 have e:(((elt 0 (eF kv xs.length) (j:Nat)).toNat:Nat):Int)=elt 0 (eF kv xs.length) (j:Nat):=by omega
 have:=h (elt 0 (eF kv xs.length) (j:Nat)).toNat (by omega) (by rw[e];exact h2)
 rwa[e]at this
theorem Cb(xs:List aj)(us:List Value)(bk:List (List aj))(kv:List (Int×Bool))(hs:x9 xs kv)(hl:xs.length≤900000):aA Tryz.prog 56 [.ptr 10000 0] (tW xs us bk kv) (.agg [.sl 10003]) (.row 10003 131 5 aD (BG xs kv) []::tW xs us bk kv):=by
 refine aA.intro (nt:=31) aH mixed (by kernel_rfl) Tryz.func56 rfl rfl rfl rfl rfl rfl ?_;refine lp Nat (fun i=>[(11,.int .i64 (i:Nat)),(3,.sl 20001)]) (fun i=>[.bV 2 30 [.raw (.slice none 0 0)],.bV 10000 87 [.sl 10001,.rsl aR bk,.mp 10002],.row 10001 131 5 aD xs us,.map 10002 .bool kv,.row 20001 2 1 (.int .i64) (eF kv i) []]) (fun i=>xs.length-i) (fun i=>i≤xs.length) 0 (Nat.zero_le _) ?_ ?_
 ·exact Nt [⟨3,30000,2,1,.int .i64⟩] [(20001,30000)] rfl (aI (aI (aI rfl rfl) (aI rfl trivial)) ⟨trivial,⟨rfl,trivial⟩,trivial,⟨rfl,rfl,rfl,trivial⟩,⟨rfl,pR _⟩,rfl,⟨rfl,nP⟩,trivial⟩)
 intro i hi;have hol:=Gc kv i;refine aI (fun q1=> ?_) (fun q1=> ?_)
 ·have hlt:i<xs.length:=by
   have q2:decide (((i:Nat):Int)<(xs.length:Nat))=true:=q1;simp only[qQ]at q2;omega
  have hst:eF kv (i+1)=bif !(bn false kv ((i:Nat):Int))then eF kv i++[((i:Nat):Int)]else eF kv i:=rfl
  refine aI (fun q2=> ?_) (fun q2=> ?_)
  ·have q3:(!(bn false kv ((i:Nat):Int)))=true:=q2;rw[q3]at hst;refine aI (show(eF kv i).length+1≤1073741824 by omega) ?_;refine aP (i+1) hlt ?_ ?_
   ·refine hd [(20001,24)] rfl (aI (aI (dB (by omega)) rfl) (aI rfl trivial)) ⟨trivial,⟨rfl,trivial⟩,trivial,⟨rfl,rfl,rfl,trivial⟩,⟨rfl,pR _⟩,rfl,⟨hst.symm,nP⟩,trivial⟩
   ·show xs.length-(i+1)<xs.length-i;omega
  ·have q3:(!(bn false kv ((i:Nat):Int)))=false:=q2;rw[q3]at hst;refine aP (i+1) hlt ?_ ?_
   ·refine hd [] rfl (aI (aI (dB (by omega)) rfl) (aI rfl trivial)) ⟨trivial,⟨rfl,trivial⟩,trivial,⟨rfl,rfl,rfl,trivial⟩,⟨rfl,pR _⟩,rfl,⟨hst.symm,nP⟩,trivial⟩
   ·show xs.length-(i+1)<xs.length-i;omega
 have hie:i=xs.length:=by
  have q2:decide (((i:Nat):Int)<(xs.length:Nat))=false:=q1;simp only[decide_eq_false_iff_not]at q2;have hi':i≤xs.length:=hi;omega
 subst hie;refine Or.inr (eI _ (eI _ (aI (XJ xs us bk kv (eF kv xs.length) hs.ord (by omega) fun j hj=>Ko kv _ hj) ?_)));refine fin [(10003,30)] (aI rfl ?_);exact⟨⟨rfl,nP⟩,trivial,⟨rfl,rfl,rfl,trivial⟩,⟨rfl,pR _⟩,rfl,trivial⟩
section
variable (bk:List (List aj))(xs:List aj)(a:List bZ)
end
end Go.Proofs.YtjijpkphkicoeaaGreat
namespace Go.Tr
open Go Go.RowKit
def Wz(P:List aj):Prop:=P.length≤3000∧∀a∈P,a.2.2.2.1.length≤4∧a.2.2.2.2.length≤4
theorem Dy{ys:List aj}:∀{n:Nat} {a:aj},a∈dS ys n→∃k:Nat,k<n∧bS ys k=true∧a=rH (kr ys) (ah ys (k:Nat))
 |0,a,h=>by cases h
 |n+1,a,h=>by
  unfold dS at h;cases hl:bS ys n with
  |false=>
   rw[hl]at h;obtain⟨k,h1,h2,h3⟩:=Dy (n:=n) h;exact⟨k,by omega,h2,h3⟩
  |true=>
   rw[hl]at h;simp only[qG,qT,qX]at h;rcases h with h|h
   ·obtain⟨k,h1,h2,h3⟩:=Dy (n:=n) h;exact⟨k,by omega,h2,h3⟩
   ·exact⟨n,by omega,hl,h⟩
theorem Twin.Ih{kv:List (Int×Bool)}{xs ys:List aj}(T:Twin kv xs ys){k:Nat}(hk:k<ys.length)(h:Tr.bS ys k=true):Wf (ah ys (k:Nat)):=by
 have hl:=T.len;rw[T.bS (by omega)]at h
 have hd:¬Gone kv ((k:Nat):Int):=fun e=>by
  have e':bn false kv ((k:Nat):Int)=true:=e;rw[e']at h;cases h
 rw[T.at_ (by omega) (by omega) hd];exact T.wf _ (by omega) (by omega) hd
theorem Twin.XR{kv:List (Int×Bool)}{xs ys:List aj}(T:Twin kv xs ys)(h:xs.length≤3000):Wz (dx ys):=by
 have hl:=T.len
 have hlen:∀n:Nat,(Tr.dS ys n).length≤n:=fun n=>by
  induction n with
  |zero=>exact Nat.le_refl 0
  |succ n ih=>
   unfold Tr.dS;cases Tr.bS ys n
   ·simp only[qH];omega
   ·simp only[qG,qA,qJ];omega
 refine⟨Nat.le_trans (hlen ys.length) (by omega),fun a ha=> ?_⟩;obtain⟨k,h1,h2,rfl⟩:=Dy ha;have w:=T.Ih h1 h2;have w1:=wf_data w;have w2:=(fu w).2;refine⟨w1,?_⟩;show(List.map _ _).length≤4;rw[qV];exact w2
end Go.Tr
namespace Go.Proofs.YtjijpkphkicoeaaGreat
open Go Go.RowKit Go.Proofs Go.Tr
theorem KW{kv:List (Int×Bool)}{xs ys:List aj}(T:Tr.Twin kv xs ys):x9 xs kv:=fun i hi hg=>by
 have hd:¬Gone kv ((i:Nat):Int):=fun e=>by
  have e':bn false kv ((i:Nat):Int)=true:=e;rw[hg]at e';cases e'
 have w:=T.wf (i:Nat) (by omega) (by omega) hd;have w1:=wf_data w;have w2:=(fu w).2;omega
theorem KX{kv:List (Int×Bool)}{xs ys:List aj}(T:Tr.Twin kv xs ys)(hl:xs.length≤1000000):bE ys:=by
 have hlen:=T.len;refine⟨by omega,fun i=> ?_⟩
 by_cases hi:i<ys.length
 ·cases hv:bS ys i with
  |true=>
   have w:=T.Ih hi hv;have w1:=wf_data w;have w2:=(fu w).2;exact⟨by show(ah ys (i:Nat)).2.2.2.1.length≤1048576;omega,by show(ah ys (i:Nat)).2.2.2.2.length≤1048576;omega⟩
  |false=>
   rw[T.bS (by omega)]at hv
   have hg:Gone kv ((i:Nat):Int):=by
    show bn false kv ((i:Nat):Int)=true;cases hq:bn false kv ((i:Nat):Int)with
    |true=>rfl
    |false=>rw[hq]at hv;cases hv
   rw[(T.hole _ hg).2];decide
 ·rw[nO (by omega)];decide
end Go.Proofs.YtjijpkphkicoeaaGreat
