
/- The program's pairs of a net. -/
import Derived.Test.YtbdimbjclhmeoaaGreatShort
import Derived.Test.YtbdimbjclhmeoaaGreatIo
import Derived.Test.YtbdimbjclhmeoaaGreatVV
import Derived.Test.YtbdimbjclhmeoaaGreatUa
import Derived.Test.YtbdimbjclhmeoaaGreatRa
set_option maxRecDepth 100000
set_option linter.unusedSimpArgs false
set_option linter.unusedVariables false
namespace Go.Proofs.YtbdimbjclhmeoaaGreat
open Go Go.RowKit Go.Proofs Go.Tr
theorem ltU{k n:Nat}(h:decide (((k:Nat):Int)<((n:Nat):Int))=true):k<n:=by simp only[qQ]at h;omega
theorem geU{k n:Nat}(h:decide (((k:Nat):Int)<((n:Nat):Int))=false):n≤k:=by simp only[qP]at h;omega
section
variable (xs:List aj)(us:List Value)(bk:List (List aj))(kv:List (Int×Bool))(ev:List aB)
end
end Go.Proofs.YtbdimbjclhmeoaaGreat
namespace Go.Proofs.YtbdimbjclhmeoaaGreat
open Go Go.RowKit Go.Proofs Go.Tr
theorem Xi:bI Tryz.prog 45=true:=by kernel_rfl
theorem atM1(m n:Int):aA Tryz.prog 78 [.int .i64 n,.ptr 10000 0] [.dF 10000 2 [.int .i64 m]] (.bool (Bz m n)) [.dF 10000 2 [.int .i64 m]]:=by
 refine aA.intro (nt:=11) aG mixed (by kernel_rfl) Tryz.func78 rfl rfl rfl rfl rfl rfl ?_;refine fin [] (aI rfl ?_);exact⟨trivial,⟨⟨rfl,rfl⟩,trivial⟩,trivial⟩
theorem idxM(m:Int)(xs:List Int)(hl:xs.length≤1000000):aA Tryz.prog 114 [.rsl (.int .i64) xs,.fn 78 [.ptr 10000 0]] [.dF 10000 2 [.int .i64 m]] (.int .i64 (rA (Bz m) xs 0)) [.dF 10000 2 [.int .i64 m]]:=by
 refine aA.intro (nt:=19) aG mixed (by kernel_rfl) Tryz.func114 rfl rfl rfl rfl rfl rfl ?_;refine lp Nat (fun i=>[(8,.int .i64 (i:Nat))]) (fun _=>[.dF 10000 2 [.int .i64 m]]) (fun i=>xs.length-i) (fun i=>i≤xs.length∧rA (Bz m) xs 0=rA (Bz m) (xs.drop i) i) 0 ⟨Nat.zero_le _,rfl⟩ ?_ ?_
 ·exact hd [] rfl (aI (aI rfl rfl) trivial) ⟨trivial,⟨⟨rfl,rfl⟩,trivial⟩,trivial⟩
 rintro i ⟨hi,he⟩;refine aI (fun q1=> ?_) (fun q1=> ?_)
 ·have hlt:i<xs.length:=ltU q1;refine aI (show 0≤((i:Nat):Int)∧((i:Nat):Int)<(xs.length:Nat) by omega) ?_;refine Or.inr (eI _ (eI _ (aI (atM1 m (xs.getD i 0)) ?_)));rw[X6 0 hlt]at he;refine aI (fun q2=> ?_) (fun q2=> ?_)
  ·rw[he,show rA (Bz m) (xs.getD i 0::xs.drop (i+1)) i=i by unfold rA;rw[show Bz m (xs.getD i 0)=true from q2];rfl];exact fin [] (aI ⟨rfl,rfl⟩ ⟨trivial,⟨⟨rfl,rfl⟩,trivial⟩,trivial⟩)
  ·refine bF (i+1) ⟨hlt,?_⟩ ?_ ?_
   ·rw[he]
    conv=>lhs;unfold rA
    rw[show Bz m (xs.getD i 0)=false from q2];rfl
   ·exact hd [] rfl (aI (aI (dH (by omega)) rfl) trivial) ⟨trivial,⟨⟨rfl,rfl⟩,trivial⟩,trivial⟩
   ·show xs.length-(i+1)<xs.length-i;omega
 ·have hge:xs.length≤i:=geU q1;have hie:i=xs.length:=by omega
  subst hie;rw[he,List.drop_length];exact fin [] (aI ⟨rfl,rfl⟩ ⟨trivial,⟨⟨rfl,rfl⟩,trivial⟩,trivial⟩)
theorem conM(m:Int)(xs:List Int)(hl:xs.length≤1000000):aA Tryz.prog 77 [.rsl (.int .i64) xs,.fn 78 [.ptr 10000 0]] [.dF 10000 2 [.int .i64 m]] (.bool (xs.any (Bz m))) [.dF 10000 2 [.int .i64 m]]:=by
 refine aA.intro (nt:=9) aG mixed (by kernel_rfl) Tryz.func77 rfl rfl rfl rfl rfl rfl ?_;refine Or.inr (eI _ (eI _ (aI (idxM m xs hl) ?_)));rw[←JU (Bz m) xs 0 (by omega)];exact fin [] (aI rfl ⟨trivial,⟨⟨rfl,rfl⟩,trivial⟩,trivial⟩)
theorem atMQ(m:Int)(xs:List Int)(hl:xs.length≤1000000):aJ Tryz.prog 45 [.int .i64 m,.rsl (.int .i64) xs] (.bool (!(xs.any (Bz m)))):=by
 refine aJ.intro (nt:=9) aG mixed Xi Tryz.func45 rfl rfl rfl rfl rfl ?_;refine Or.inr (eI _ (eI _ (aI (conM m xs hl) ?_)));exact rfl
theorem XM(m st:Int):(!([st].any (Bz m)))=fA st 0 m:=by
 unfold fA Bz;simp only[List.any_cons,List.any_nil,Bool.or_false]
 by_cases h1:st<0
 ·rw[decide_eq_true h1,decide_eq_false (show ¬0≤st by omega)];rfl
 ·rw[decide_eq_false h1,decide_eq_true (show 0≤st by omega),qH,Bool.true_and]
  by_cases h2:m<st
  ·rw[decide_eq_true h2,decide_eq_false (show ¬st≤m by omega)];rfl
  ·rw[decide_eq_false h2,decide_eq_true (show st≤m by omega)];rfl
end Go.Proofs.YtbdimbjclhmeoaaGreat
