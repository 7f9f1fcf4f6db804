
/- The program's pairs of a net. -/
import Derived.Test.YtemalpelcdmemaaGreatShort
import Derived.Test.YtemalpelcdmemaaGreatIo
import Derived.Test.YtemalpelcdmemaaGreatVV
import Derived.Test.YtemalpelcdmemaaGreatUa
set_option linter.unusedSimpArgs false
set_option linter.unusedVariables false
namespace Go.Proofs.YtemalpelcdmemaaGreat
open Go Go.RowKit Go.Proofs Go.Tr
theorem ltU{k n:Nat}(h:decide (((k:Nat):Int)<((n:Nat):Int))=true):k<n:=by simp only[decide_eq_true_eq]at h;omega
theorem geU{k n:Nat}(h:decide (((k:Nat):Int)<((n:Nat):Int))=false):n≤k:=by simp only[decide_eq_false_iff_not]at h;omega
theorem Qj:callOk Tryz.prog 129=true:=by kernel_rfl
set_option maxRecDepth 100000 in
theorem Za(xs:List NAgent)(hl:xs.length≤1000000)(hp:JD xs):FCall Tryz.prog 129 [.rp uNet xs] [] (.sl 10000) [.row 10000 96 2 uPort (mh (MV xs) xs xs.length) []]:=by
 refine FCall.intro (nt:=44) ti_ok mixed Qj Tryz.func129 rfl rfl rfl rfl rfl rfl ?_;refine lp Nat (fun i=>[(12,.int .i64 (i:Nat)),(3,.sl 20000)]) (fun i=>[.row 20000 96 2 uPort (mh (MV xs) xs i) []]) (fun i=>xs.length-i) (fun i=>i≤xs.length) 0 (Nat.zero_le _) ?_ ?_
 ·exact hdm [⟨3,30000,96,2,uPort⟩] [(20000,30000)] rfl (aI (aI (aI rfl rfl) (aI rfl trivial)) ⟨⟨rfl,List.nil_prefix⟩,trivial⟩)
 intro i hi;refine aI (fun q1=> ?_) (fun q1=> ?_)
 ·have hlt:i<xs.length:=ltU q1;have hp1:=hp i hlt;refine aI (show 0≤((i:Nat):Int)∧((i:Nat):Int)<(xs.length:Nat) by omega) ?_;refine aI (show(0:Int)≤0∧(0:Int)<((ah xs (i:Nat)).2.2.2.2.length:Nat) by omega) ?_;refine aI (fun q2=> ?_) (fun q2=> ?_)
  ·have hc:MV xs i=true:=q2;refine aI (show(mh (MV xs) xs i).length+1≤1073741824 by have:=Gg (MV xs) xs i;omega) ?_;refine lp_next (i+1) hlt ?_ ?_
   ·refine hd [(20000,41)] rfl (aI (aI (wrapS (by omega)) rfl) (aI rfl trivial)) ⟨⟨?_,List.nil_prefix⟩,trivial⟩;show mh (MV xs) xs i++[Nn xs i]=mh (MV xs) xs (i+1);exact(Ad hc).symm
   ·show xs.length-(i+1)<xs.length-i;omega
  ·have hc:MV xs i=false:=q2;refine lp_next (i+1) hlt ?_ ?_
   ·exact hd [] rfl (aI (aI (wrapS (by omega)) rfl) (aI rfl trivial)) ⟨⟨(sW hc).symm,List.nil_prefix⟩,trivial⟩
   ·show xs.length-(i+1)<xs.length-i;omega
 ·have hge:xs.length≤i:=geU q1;have hi':i≤xs.length:=hi;obtain rfl:i=xs.length:=by omega
  refine fin [(10000,20000)] (aI rfl ?_);exact⟨⟨rfl,List.nil_prefix⟩,trivial⟩
theorem Zc(xs:List NAgent)(us:List Value)(bk:List (List NAgent))(kv:List (Int×Bool))(hl:xs.length≤1000000)(hp:JD xs):
  FCall Tryz.prog 129 [.ptr 10000 0] (tW xs us bk kv) (.sl 10003) ([.row 10003 96 2 uPort (mh (MV xs) xs xs.length) []]++tW xs us bk kv):=
 FCall.of_f (ts2:=[.row 10003 96 2 uPort (mh (MV xs) xs xs.length) []]) ti_ok [71] Qj (Za xs hl hp) rfl rfl rfl
end Go.Proofs.YtemalpelcdmemaaGreat
