
/- One interaction of the program's and of the reference's nets. -/
import Derived.Test.YtjijpkphkicoeaaGreatShort
import Derived.Test.YtjijpkphkicoeaaGreatIo
import Derived.Test.YtjijpkphkicoeaaGreatJh
import Derived.Test.YtjijpkphkicoeaaGreatNz
import Derived.Test.YtjijpkphkicoeaaGreatRa
set_option maxRecDepth 100000
set_option linter.unusedSimpArgs false
set_option linter.unusedVariables false
set_option linter.unusedSectionVars false
namespace Go.Proofs.YtjijpkphkicoeaaGreat
open Go Go.RowKit Go.Proofs Go.Tr
section
variable {bk:List (List NAgent)}{kv:List (Int×Bool)}{xs ys:List NAgent}
end
end Go.Proofs.YtjijpkphkicoeaaGreat
namespace Go.Proofs.YtjijpkphkicoeaaGreat
open Go Go.RowKit Go.Proofs Go.Tr
theorem Po(xs:List NAgent)(h:NetSmall xs):FCall Tryz.prog 70 [.rp uNet xs] [] (.agg [.sl 10000]) [.row 10000 131 5 uAgent xs []]:=by
 obtain⟨hl,ha⟩:=h;refine FCall.intro (nt:=28) ti_ok mixed (by kernel_rfl) Tryz.func70 rfl rfl rfl rfl rfl rfl ?_;refine lp Nat (fun i=>[(4,.int .i64 (i:Nat))]) (fun i=>[.cel 2 30 [.raw (.slice none 0 0)],.cel 3 30 [.sl 20000],.row 20000 131 5 uAgent (xs.take i) []]) (fun i=>xs.length-i) (fun i=>i≤xs.length) 0 (Nat.zero_le _) ?_ ?_
 ·exact hdm [⟨1000003,30000,131,5,uAgent⟩] [(20000,30000)] rfl (aI (aI (aI rfl rfl) trivial) ⟨trivial,⟨rfl,trivial⟩,trivial,⟨rfl,trivial⟩,⟨rfl,nP⟩,trivial⟩)
 intro i hi;refine aI (fun q1=> ?_) (fun q1=> ?_)
 ·have hlt:i<xs.length:=by simpa using q1
  refine aI (by show(0:Int)≤(i:Nat)∧((i:Nat):Int)<(xs.length:Nat);omega) ?_;refine Or.inr (eI _ (eI _ (aI (DN (agAt xs i) (ha i).1 (ha i).2) ?_)));refine aI (by show(xs.take i).length+1≤_;rw[List.length_take];omega) ?_;refine aI (by kernel_rfl) ?_;refine lp_next (i+1) hlt ?_ ?_
  ·refine hd [(20000,25)] rfl (aI (aI (wrapS (by omega)) rfl) trivial) ⟨trivial,⟨rfl,trivial⟩,trivial,⟨rfl,trivial⟩,⟨?_,nP⟩,trivial⟩;show xs.take i++[agAt xs i]=xs.take (i+1);rw[List.take_add_one,List.getElem?_eq_getElem hlt];unfold agAt elt;rw[Int.toNat_natCast,List.getD_eq_getElem?_getD,List.getElem?_eq_getElem hlt];rfl
  ·show xs.length-(i+1)<xs.length-i;omega
 ·have hge:xs.length≤i:=by simpa using q1
  refine fin [(10000,20000)] (aI rfl ?_);refine⟨⟨?_,nP⟩,trivial⟩;show xs.take i=xs;rw[List.take_of_length_le hge]
section
variable (bk:List (List NAgent))(xs:List NAgent)(es:List NEvent)
variable (hB:jB (bk.map gN)=true)(hN:eT (gN xs)=true)
include hB hN
end
end Go.Proofs.YtjijpkphkicoeaaGreat
namespace Go.Proofs.YtjijpkphkicoeaaGreat
open Go Go.RowKit Go.Proofs Go.Tr
section
variable (bk:List (List NAgent))(xs:List NAgent)(a b:List NEvent)
end
end Go.Proofs.YtjijpkphkicoeaaGreat
namespace Go.Proofs.YtjijpkphkicoeaaGreat
open Go Go.RowKit Go.Proofs Go.Tr
def xk(ys:List NAgent)(i:Nat):List Int:=(List.range i).map fun j:Nat=>((dD ys j:Nat):Int)
theorem FC(ys:List NAgent)(i:Nat):(xk ys i).length=i:=by unfold xk;simp
theorem BP(ys:List NAgent)(i:Nat):xk ys (i+1)=xk ys i++[((dD ys i:Nat):Int)]:=by unfold xk;rw[List.range_succ,List.map_append];rfl
theorem Pf(ys:List NAgent){n:Nat}{x:Int}(h0:0≤x)(h1:x<((n:Nat):Int)):elt 0 (xk ys n) x=iW ys x:=by
 unfold elt xk iW;rw[List.getD_eq_getElem?_getD,List.getElem?_map,List.getElem?_range (by omega)];rfl
theorem zM(ys:List NAgent):∀n:Nat,(bV ys n).length≤n
 |0=>Nat.le_refl 0
 |n+1=>by
  unfold bV;have:=zM ys n;cases liveY ys n
  ·simp only[cond_false];omega
  ·simp only[cond_true,List.length_append,List.length_singleton];omega
section
variable (bk:List (List NAgent))(xs:List NAgent)(a:List NEvent)
end
end Go.Proofs.YtjijpkphkicoeaaGreat
namespace Go.Proofs.YtjijpkphkicoeaaGreat
open Go Go.RowKit Go.Proofs Go.Tr
section
variable (bk:List (List NAgent))(xs:List NAgent)(es:List NEvent)
variable (hB:jB (bk.map gN)=true)(hN:eT (gN xs)=true)
include hB hN
end
end Go.Proofs.YtjijpkphkicoeaaGreat
namespace Go.Proofs.YtjijpkphkicoeaaGreat
open Go Go.RowKit Go.Proofs Go.Tr
theorem JD:callOk Tryz.prog 101=true:=by kernel_rfl
set_option maxHeartbeats 4000000 in
theorem RF(xs:List NAgent)(ord:List Int)(hs:∀j:Nat,j<ord.length→(agAt xs (elt 0 ord (j:Nat))).2.2.2.1.length≤1048576∧(agAt xs (elt 0 ord (j:Nat))).2.2.2.2.length≤1048576)(hl:ord.length≤1000000)(ho:∀j:Nat,j<ord.length→0≤elt 0 ord (j:Nat)∧elt 0 ord (j:Nat)<(xs.length:Nat)):FCall Tryz.prog 101 [.rp uNet xs,.rsl (.int .i64) ord] [] (.agg [.sl 10000]) [.row 10000 131 5 uAgent (oD xs ord ord.length) []]:=by
 refine FCall.intro (nt:=67) ti_ok mixed JD Tryz.func101 rfl rfl rfl rfl rfl rfl ?_;refine lp Nat (fun i=>[(16,.int .i64 (i:Nat))]) (fun i=>[.cel 4 30 [.raw (.slice none 0 0)],.map 13 (.int .i64) (Ik ord i)]) (fun i=>ord.length-i) (fun i=>i≤ord.length) 0 (Nat.zero_le _) ?_ ?_
 ·exact hd [] rfl (aI (aI rfl rfl) trivial) ⟨trivial,⟨rfl,trivial⟩,rfl,trivial⟩
 intro i hi;refine aI (fun q1=> ?_) (fun q1=> ?_)
 ·have hlt:i<ord.length:=by
   have q2:decide (((i:Nat):Int)<(ord.length:Nat))=true:=q1;simp only[decide_eq_true_eq]at q2;omega
  refine aI (show 0≤((i:Nat):Int)∧((i:Nat):Int)<(ord.length:Nat) by omega) ?_;refine lp_next (i+1) hlt ?_ ?_
  ·exact hd [] rfl (aI (aI (wrapS (by omega)) rfl) trivial) ⟨trivial,⟨rfl,trivial⟩,rfl,trivial⟩
  ·show ord.length-(i+1)<ord.length-i;omega
 have hie:i=ord.length:=by
  have q2:decide (((i:Nat):Int)<(ord.length:Nat))=false:=q1;simp only[decide_eq_false_iff_not]at q2;have hi':i≤ord.length:=hi;omega
 subst hie;refine lp Nat (fun k=>[(27,.int .i64 (k:Nat))]) (fun k=>[.cel 4 30 [.raw (.slice none 0 0)],.map 13 (.int .i64) (Ik ord ord.length),.cel 8 30 [.sl 20000],.row 20000 131 5 uAgent (oD xs ord k) []]) (fun k=>ord.length-k) (fun k=>k≤ord.length) 0 (Nat.zero_le _) ?_ ?_
 ·exact hdm [⟨1000008,30000,131,5,uAgent⟩] [(20000,30000)] rfl (aI (aI (aI rfl rfl) trivial) ⟨trivial,⟨rfl,trivial⟩,rfl,trivial,⟨rfl,trivial⟩,⟨rfl,nP⟩,trivial⟩)
 intro k hk;refine aI (fun q1=> ?_) (fun q1=> ?_)
 ·have hlt:k<ord.length:=by
   have q2:decide (((k:Nat):Int)<(ord.length:Nat))=true:=q1;simp only[decide_eq_true_eq]at q2;omega
  have hok:=ho k hlt;have hrl:(oD xs ord k).length=k:=by rw[zS _ _ _ (by omega),List.length_map,List.length_take];omega
  refine aI (show 0≤((k:Nat):Int)∧((k:Nat):Int)<(ord.length:Nat) by omega) ?_;refine aI hok ?_;have hsk:=hs k hlt;generalize hx:agAt xs (elt 0 ord ((k:Nat):Int))=a at*
  have hcp:FCall Tryz.prog 157 [.agg [.int .i64 (agAt xs (elt 0 ord ((k:Nat):Int))).1,.int .i64 (agAt xs (elt 0 ord ((k:Nat):Int))).2.1,.int .i64 (agAt xs (elt 0 ord ((k:Nat):Int))).2.2.1,.rsl (.int .i64) (agAt xs (elt 0 ord ((k:Nat):Int))).2.2.2.1,.rsl uPort (agAt xs (elt 0 ord ((k:Nat):Int))).2.2.2.2]] [] (.agg [.int .i64 a.1,.int .i64 a.2.1,.int .i64 a.2.2.1,.sl 10000,.sl 10001]) [.row 10000 2 1 (.int .i64) a.2.2.2.1 [],.row 10001 102 2 uPort a.2.2.2.2 []]:=by
   rw[hx];exact yV a hsk.1 hsk.2
  refine Or.inr (eI _ (eI _ (aI hcp ?_)));refine lp Nat (fun j=>[(42,.int .i64 (j:Nat))]) (fun j=>[.cel 11 131 [.int .i64 a.1,.int .i64 a.2.1,.int .i64 a.2.2.1,.sl 38,.sl 21001],.cel 4 30 [.raw (.slice none 0 0)],.map 13 (.int .i64) (Ik ord ord.length),.cel 8 30 [.sl 21000],.row 21000 131 5 uAgent (oD xs ord k) [],.row 38 2 1 (.int .i64) a.2.2.2.1 [],.row 21001 102 2 uPort (fK (JZ ord) a.2.2.2.2 j) []]) (fun j=>a.2.2.2.2.length-j) (fun j=>j≤a.2.2.2.2.length) 0 (Nat.zero_le _) ?_ ?_
  ·exact hd [(21000,20000),(21001,1000038)] rfl (aI (aI rfl rfl) trivial) ⟨trivial,⟨⟨rfl,rfl⟩,⟨rfl,rfl⟩,⟨rfl,rfl⟩,rfl,rfl,trivial⟩,trivial,⟨rfl,trivial⟩,rfl,trivial,⟨rfl,trivial⟩,⟨rfl,nP⟩,⟨rfl,nP⟩,⟨rfl,nP⟩,trivial⟩
  intro j hj;have hj':j≤a.2.2.2.2.length:=hj;refine aI (fun q3=> ?_) (fun q3=> ?_)
  ·have hlt2:j<a.2.2.2.2.length:=by
    have q4:decide (((j:Nat):Int)<(a.2.2.2.2.length:Nat))=true:=q3;simp only[decide_eq_true_eq]at q4;omega
   have hbnd:0≤((j:Nat):Int)∧((j:Nat):Int)<((fK (JZ ord) a.2.2.2.2 j).length:Nat):=by rw[sV];omega
   refine aI hbnd ?_;refine aI hbnd ?_;refine aI (by kernel_rfl) ?_;refine lp_next (j+1) hlt2 ?_ ?_
   ·refine hd [] rfl (aI (aI (wrapS (by omega)) rfl) trivial) ⟨trivial,⟨⟨rfl,rfl⟩,⟨rfl,rfl⟩,⟨rfl,rfl⟩,rfl,rfl,trivial⟩,trivial,⟨rfl,trivial⟩,rfl,trivial,⟨rfl,trivial⟩,⟨rfl,nP⟩,⟨rfl,nP⟩,⟨?_,nP⟩,trivial⟩;show(fK (JZ ord) a.2.2.2.2 j).set j (JZ ord (elt (dflt uPort) (fK (JZ ord) a.2.2.2.2 j) ((j:Nat):Int)).1,(elt (dflt uPort) (fK (JZ ord) a.2.2.2.2 j) ((j:Nat):Int)).2)=fK (JZ ord) a.2.2.2.2 (j+1);rw[zW hlt2,zV hlt2]
   ·show a.2.2.2.2.length-(j+1)<a.2.2.2.2.length-j;omega
  have hje:j=a.2.2.2.2.length:=by
   have q4:decide (((j:Nat):Int)<(a.2.2.2.2.length:Nat))=false:=q3;simp only[decide_eq_false_iff_not]at q4;omega
  refine aI (show(oD xs ord k).length+1≤1073741824 by omega) ?_;refine lp_next (k+1) hlt ?_ ?_
  ·refine hd [(20000,63)] rfl (aI (aI (wrapS (by omega)) rfl) trivial) ⟨trivial,⟨rfl,trivial⟩,rfl,trivial,⟨rfl,trivial⟩,⟨?_,nP⟩,trivial⟩;show oD xs ord k++[(a.1,a.2.1,a.2.2.1,a.2.2.2.1,fK (JZ ord) a.2.2.2.2 j)]=oD xs ord k++[nW (JZ ord) (agAt xs (elt 0 ord ((k:Nat):Int)))];rw[hx,hje,Cg];rfl
  ·show ord.length-(k+1)<ord.length-k;omega
 have hke:k=ord.length:=by
  have q2:decide (((k:Nat):Int)<(ord.length:Nat))=false:=q1;simp only[decide_eq_false_iff_not]at q2;have hk':k≤ord.length:=hk;omega
 subst hke;refine fin [(10000,20000)] (aI rfl ?_);exact⟨⟨rfl,nP⟩,trivial⟩
theorem RG(xs:List NAgent)(us:List Value)(bk:List (List NAgent))(kv:List (Int×Bool))(ord:List Int)(hs:∀j:Nat,j<ord.length→(agAt xs (elt 0 ord (j:Nat))).2.2.2.1.length≤1048576∧(agAt xs (elt 0 ord (j:Nat))).2.2.2.2.length≤1048576)(hl:ord.length≤1000000)(ho:∀j:Nat,j<ord.length→0≤elt 0 ord (j:Nat)∧elt 0 ord (j:Nat)<(xs.length:Nat)):
  FCall Tryz.prog 101 [.ptr 10000 0,.sl 10003] (tW xs us bk kv++[.row 10003 2 1 (.int .i64) ord []]) (.agg [.sl 10004]) ([.row 10004 131 5 uAgent (oD xs ord ord.length) []]++(tW xs us bk kv++[.row 10003 2 1 (.int .i64) ord []])):=
 FCall.of_f (ts2:=[.row 10004 131 5 uAgent (oD xs ord ord.length) []]) ti_ok [61,0] JD (RF xs ord hs hl ho) rfl rfl rfl
theorem Ca(kv:List (Int×Bool)):∀n:Nat,(bU kv n).length≤n
 |0=>Nat.le_refl 0
 |n+1=>by
  unfold bU;have:=Ca kv n;cases kvGet false kv ((n:Nat):Int)
  ·simp only[Bool.not_false,cond_true,List.length_append,List.length_singleton];omega
  ·simp only[Bool.not_true,cond_false];omega
theorem zJ(kv:List (Int×Bool)):∀n:Nat,∀z∈bU kv n,0≤z∧z<((n:Nat):Int)
 |0,z,h=>by cases h
 |n+1,z,h=>by
  unfold bU at h;cases hg:kvGet false kv ((n:Nat):Int)with
  |false=>
   rw[hg]at h;simp only[Bool.not_false,cond_true,List.mem_append,List.mem_singleton]at h;rcases h with h|h
   ·have:=zJ kv n z h;omega
   ·omega
  |true=>
   rw[hg]at h;simp only[Bool.not_true,cond_false]at h;have:=zJ kv n z h;omega
theorem FK(kv:List (Int×Bool))(n:Nat){j:Nat}(h:j<(bU kv n).length):0≤elt 0 (bU kv n) (j:Nat)∧elt 0 (bU kv n) (j:Nat)<((n:Nat):Int):=by
 refine zJ kv n _ ?_;unfold elt;rw[Int.toNat_natCast,List.getD_eq_getElem?_getD,List.getElem?_eq_getElem h];exact List.getElem_mem h
def resN(xs:List NAgent)(kv:List (Int×Bool)):List NAgent:=oD xs (bU kv xs.length) (bU kv xs.length).length
def LiveSm(xs:List NAgent)(kv:List (Int×Bool)):Prop:=∀i:Nat,i<xs.length→kvGet false kv ((i:Nat):Int)=false→(agAt xs (i:Nat)).2.2.2.1.length≤1048576∧(agAt xs (i:Nat)).2.2.2.2.length≤1048576
theorem uF(kv:List (Int×Bool)):∀n:Nat,∀z∈bU kv n,kvGet false kv z=false
 |0,z,h=>by cases h
 |n+1,z,h=>by
  unfold bU at h;cases hg:kvGet false kv ((n:Nat):Int)with
  |false=>
   rw[hg]at h;simp only[Bool.not_false,cond_true,List.mem_append,List.mem_singleton]at h;rcases h with h|h
   ·exact uF kv n z h
   ·rw[h];exact hg
  |true=>
   rw[hg]at h;simp only[Bool.not_true,cond_false]at h;exact uF kv n z h
theorem LiveSm.ord{xs:List NAgent}{kv:List (Int×Bool)}(h:LiveSm xs kv)(j:Nat)(hj:j<(bU kv xs.length).length):(agAt xs (elt 0 (bU kv xs.length) (j:Nat))).2.2.2.1.length≤1048576∧(agAt xs (elt 0 (bU kv xs.length) (j:Nat))).2.2.2.2.length≤1048576:=by
 have h1:=FK kv xs.length hj
 have h2:kvGet false kv (elt 0 (bU kv xs.length) (j:Nat))=false:=by
  refine uF kv xs.length _ ?_;unfold elt;rw[Int.toNat_natCast,List.getD_eq_getElem?_getD,List.getElem?_eq_getElem hj];exact List.getElem_mem hj
 have e:(((elt 0 (bU kv xs.length) (j:Nat)).toNat:Nat):Int)=elt 0 (bU kv xs.length) (j:Nat):=by omega
 have:=h (elt 0 (bU kv xs.length) (j:Nat)).toNat (by omega) (by rw[e];exact h2)
 rwa[e]at this
theorem resultI(xs:List NAgent)(us:List Value)(bk:List (List NAgent))(kv:List (Int×Bool))(hs:LiveSm xs kv)(hl:xs.length≤900000):FCall Tryz.prog 56 [.ptr 10000 0] (tW xs us bk kv) (.agg [.sl 10003]) (.row 10003 131 5 uAgent (resN xs kv) []::tW xs us bk kv):=by
 refine FCall.intro (nt:=31) ti_ok mixed (by kernel_rfl) Tryz.func56 rfl rfl rfl rfl rfl rfl ?_;refine lp Nat (fun i=>[(11,.int .i64 (i:Nat)),(3,.sl 20001)]) (fun i=>[.cel 2 30 [.raw (.slice none 0 0)],.cel 10000 87 [.sl 10001,.rsl uNet bk,.mp 10002],.row 10001 131 5 uAgent xs us,.map 10002 .bool kv,.row 20001 2 1 (.int .i64) (bU kv i) []]) (fun i=>xs.length-i) (fun i=>i≤xs.length) 0 (Nat.zero_le _) ?_ ?_
 ·exact hdm [⟨3,30000,2,1,.int .i64⟩] [(20001,30000)] rfl (aI (aI (aI rfl rfl) (aI rfl trivial)) ⟨trivial,⟨rfl,trivial⟩,trivial,⟨rfl,rfl,rfl,trivial⟩,⟨rfl,pR _⟩,rfl,⟨rfl,nP⟩,trivial⟩)
 intro i hi;have hol:=Ca kv i;refine aI (fun q1=> ?_) (fun q1=> ?_)
 ·have hlt:i<xs.length:=by
   have q2:decide (((i:Nat):Int)<(xs.length:Nat))=true:=q1;simp only[decide_eq_true_eq]at q2;omega
  have hst:bU kv (i+1)=bif !(kvGet false kv ((i:Nat):Int))then bU kv i++[((i:Nat):Int)]else bU kv i:=rfl
  refine aI (fun q2=> ?_) (fun q2=> ?_)
  ·have q3:(!(kvGet false kv ((i:Nat):Int)))=true:=q2;rw[q3]at hst;refine aI (show(bU kv i).length+1≤1073741824 by omega) ?_;refine lp_next (i+1) hlt ?_ ?_
   ·refine hd [(20001,24)] rfl (aI (aI (wrapS (by omega)) rfl) (aI rfl trivial)) ⟨trivial,⟨rfl,trivial⟩,trivial,⟨rfl,rfl,rfl,trivial⟩,⟨rfl,pR _⟩,rfl,⟨hst.symm,nP⟩,trivial⟩
   ·show xs.length-(i+1)<xs.length-i;omega
  ·have q3:(!(kvGet false kv ((i:Nat):Int)))=false:=q2;rw[q3]at hst;refine lp_next (i+1) hlt ?_ ?_
   ·refine hd [] rfl (aI (aI (wrapS (by omega)) rfl) (aI rfl trivial)) ⟨trivial,⟨rfl,trivial⟩,trivial,⟨rfl,rfl,rfl,trivial⟩,⟨rfl,pR _⟩,rfl,⟨hst.symm,nP⟩,trivial⟩
   ·show xs.length-(i+1)<xs.length-i;omega
 have hie:i=xs.length:=by
  have q2:decide (((i:Nat):Int)<(xs.length:Nat))=false:=q1;simp only[decide_eq_false_iff_not]at q2;have hi':i≤xs.length:=hi;omega
 subst hie;refine Or.inr (eI _ (eI _ (aI (RG xs us bk kv (bU kv xs.length) hs.ord (by omega) fun j hj=>FK kv _ hj) ?_)));refine fin [(10003,30)] (aI rfl ?_);exact⟨⟨rfl,nP⟩,trivial,⟨rfl,rfl,rfl,trivial⟩,⟨rfl,pR _⟩,rfl,trivial⟩
section
variable (bk:List (List NAgent))(xs:List NAgent)(a:List NEvent)
end
end Go.Proofs.YtjijpkphkicoeaaGreat
namespace Go.Tr
open Go Go.RowKit
theorem Twin.Jl{kv:List (Int×Bool)}{xs ys:List NAgent}(T:Twin kv xs ys){k:Nat}(hk:k<ys.length)(h:Tr.liveY ys k=true):Wf (agAt ys (k:Nat)):=by
 have hl:=T.len;rw[T.liveY (by omega)]at h
 have hd:¬Gone kv ((k:Nat):Int):=fun e=>by
  have e':kvGet false kv ((k:Nat):Int)=true:=e;rw[e']at h;cases h
 rw[T.at_ (by omega) (by omega) hd];exact T.wf _ (by omega) (by omega) hd
end Go.Tr
namespace Go.Proofs.YtjijpkphkicoeaaGreat
open Go Go.RowKit Go.Proofs Go.Tr
theorem Gf{kv:List (Int×Bool)}{xs ys:List NAgent}(T:Tr.Twin kv xs ys):LiveSm xs kv:=fun i hi hg=>by
 have hd:¬Gone kv ((i:Nat):Int):=fun e=>by
  have e':kvGet false kv ((i:Nat):Int)=true:=e;rw[hg]at e';cases e'
 have w:=T.wf (i:Nat) (by omega) (by omega) hd;have w1:=wf_data w;have w2:=(wf_small w).2;omega
theorem Gg{kv:List (Int×Bool)}{xs ys:List NAgent}(T:Tr.Twin kv xs ys)(hl:xs.length≤1000000):NetSmall ys:=by
 have hlen:=T.len;refine⟨by omega,fun i=> ?_⟩
 by_cases hi:i<ys.length
 ·cases hv:liveY ys i with
  |true=>
   have w:=T.Jl hi hv;have w1:=wf_data w;have w2:=(wf_small w).2;exact⟨by show(agAt ys (i:Nat)).2.2.2.1.length≤1048576;omega,by show(agAt ys (i:Nat)).2.2.2.2.length≤1048576;omega⟩
  |false=>
   rw[T.liveY (by omega)]at hv
   have hg:Gone kv ((i:Nat):Int):=by
    show kvGet false kv ((i:Nat):Int)=true;cases hq:kvGet false kv ((i:Nat):Int)with
    |true=>rfl
    |false=>rw[hq]at hv;cases hv
   rw[(T.hole _ hg).2];decide
 ·rw[agAt_out (by omega)];decide
end Go.Proofs.YtjijpkphkicoeaaGreat
