
/- One interaction of the program's and of the reference's nets. -/
import Derived.Test.YtjpaeopdljfjpaaGreatShort
import Derived.Test.YtjpaeopdljfjpaaGreatIo
import Derived.Test.YtjpaeopdljfjpaaGreatJh
import Derived.Test.YtjpaeopdljfjpaaGreatNz
import Derived.Test.YtjpaeopdljfjpaaGreatRa
set_option linter.unusedSimpArgs false
set_option linter.unusedVariables false
set_option linter.unusedSectionVars false
namespace Go.Proofs.YtjpaeopdljfjpaaGreat
open Go Go.RowKit Go.Proofs Go.Tr
section
variable {bk:List (List ah)}{kv:List (Int×Bool)}{xs ys:List ah}
end
end Go.Proofs.YtjpaeopdljfjpaaGreat
namespace Go.Proofs.YtjpaeopdljfjpaaGreat
open Go Go.RowKit Go.Proofs Go.Tr
set_option maxRecDepth 100000 in
theorem CV(xs:List ah)(h:fO xs):bg Tryz.prog 51 [.rp fG xs] [] (.agg [.sl 10000]) [.row 10000 86 5 bf xs []]:=by
 obtain⟨hl,ha⟩:=h;refine bg.intro (nt:=28) fJ mixed (by kernel_rfl) Tryz.func51 rfl rfl rfl rfl rfl rfl ?_;refine lp Nat (fun i=>[(4,.int .i64 (i:Nat))]) (fun i=>[.iG 2 32 [.raw (.slice none 0 0)],.iG 3 32 [.sl 20000],.row 20000 86 5 bf (xs.take i) []]) (fun i=>xs.length-i) (fun i=>i≤xs.length) 0 (Nat.zero_le _) ?_ ?_
 ·exact Qk [⟨1000003,30000,86,5,bf⟩] [(20000,30000)] rfl (aI (aI (aI rfl rfl) trivial) ⟨trivial,⟨rfl,trivial⟩,trivial,⟨rfl,trivial⟩,⟨rfl,nP⟩,trivial⟩)
 intro i hi;refine aI (fun q1=> ?_) (fun q1=> ?_)
 ·have hlt:i<xs.length:=by simpa using q1
  refine aI (by show(0:Int)≤(i:Nat)∧((i:Nat):Int)<(xs.length:Nat);omega) ?_;refine Or.inr (eI _ (eI _ (aI (Pb (au xs i) (ha i).1 (ha i).2) ?_)));refine aI (by show(xs.take i).length+1≤_;rw[List.length_take];omega) ?_;refine aI (by kernel_rfl) ?_;refine lX (i+1) hlt ?_ ?_
  ·refine hd [(20000,25)] rfl (aI (aI (wB (by omega)) rfl) trivial) ⟨trivial,⟨rfl,trivial⟩,trivial,⟨rfl,trivial⟩,⟨?_,nP⟩,trivial⟩;show xs.take i++[au xs i]=xs.take (i+1);rw[List.take_add_one,qB hlt];unfold au elt;rw[qK,qC,qB hlt];rfl
  ·show xs.length-(i+1)<xs.length-i;omega
 ·have hge:xs.length≤i:=by simpa using q1
  refine fin [(10000,20000)] (aI rfl ?_);refine⟨⟨?_,nP⟩,trivial⟩;show xs.take i=xs;rw[qN hge]
section
variable (bk:List (List ah))(xs:List ah)(es:List tV)
variable (hB:ig (bk.map gN)=true)(hN:eY (gN xs)=true)
include hB hN
end
end Go.Proofs.YtjpaeopdljfjpaaGreat
