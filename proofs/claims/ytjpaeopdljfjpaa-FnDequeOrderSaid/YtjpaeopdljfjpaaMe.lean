
/- The reference's memories and pools: the small functions. -/
import Derived.Test.YtjpaeopdljfjpaaShort
import Derived.Test.YtjpaeopdljfjpaaProg
import Derived.Test.YtjpaeopdljfjpaaVti
import Derived.Test.YtjpaeopdljfjpaaVV
import Derived.Test.YtjpaeopdljfjpaaNetS
import Derived.Test.YtjpaeopdljfjpaaNn
set_option linter.unusedSimpArgs false
set_option linter.unusedVariables false
namespace Go.Proofs.Ytjpaeopdljfjpaa
open Go Go.RowKit Go.Proofs Go.Tr
theorem KU{k n:Nat}(h:decide (((k:Nat):Int)<((n:Nat):Int))=true):k<n:=by simp only[qQ]at h;omega
theorem KR{k n:Nat}(h:decide (((k:Nat):Int)<((n:Nat):Int))=false):n≤k:=by simp only[qP]at h;omega
set_option maxRecDepth 100000 in
theorem Kk(xs:List (Int))(f:Nat)(g:Int→Bool)(hl:xs.length≤1048576)(hf:∀i:Nat,i<xs.length→gD Try.prog f [.int .i64 (xs.getD i 0)] (.bool (g (xs.getD i 0)))):gD Try.prog 55 [.rsl (.int .i64) xs,.fn f []] (.int .i64 (yY g xs 0)):=by
 refine gD.intro (nt:=19) jv mixed (by kernel_rfl) Try.func55 rfl rfl rfl rfl rfl ?_;refine lp Nat (fun i=>[(8,.int .i64 (i:Nat))]) (fun _=>[]) (fun i=>xs.length-i) (fun i=>i≤xs.length∧yY g xs 0=yY g (xs.drop i) i) 0 ⟨Nat.zero_le _,rfl⟩ ?_ ?_
 ·exact hd [] rfl (aI (aI rfl rfl) trivial) trivial
 rintro i ⟨hi,he⟩;refine aI (fun q1=> ?_) (fun q1=> ?_)
 ·have hlt:i<xs.length:=KU q1;refine aI (show 0≤((i:Nat):Int)∧((i:Nat):Int)<(xs.length:Nat) by omega) ?_;refine Or.inl (eI _ (aI (hf i hlt) ?_));rw[J8 0 hlt]at he;refine aI (fun q2=> ?_) (fun q2=> ?_)
  ·rw[he,show yY g (xs.getD i 0::xs.drop (i+1)) i=i by unfold yY;rw[show g (xs.getD i 0)=true from q2];rfl];exact⟨rfl,rfl⟩
  ·refine oL (i+1) ⟨hlt,?_⟩ ?_ ?_
   ·rw[he]
    conv=>lhs;unfold yY
    rw[show g (xs.getD i 0)=false from q2];rfl
   ·exact hd [] rfl (aI (aI (Bp (by omega)) rfl) trivial) trivial
   ·show xs.length-(i+1)<xs.length-i;omega
 ·have hge:xs.length≤i:=KR q1;have hie:i=xs.length:=by omega
  subst hie;rw[he,List.drop_length];exact⟨rfl,rfl⟩
theorem Fu(xs:List (Int))(f:Nat)(g:Int→Bool)(hl:xs.length≤1048576)(hf:∀i:Nat,i<xs.length→gD Try.prog f [.int .i64 (xs.getD i 0)] (.bool (g (xs.getD i 0)))):gD Try.prog 24 [.rsl (.int .i64) xs,.fn f []] (.bool (xs.any g)):=by
 refine gD.intro (nt:=9) jv mixed (by kernel_rfl) Try.func24 rfl rfl rfl rfl rfl ?_;refine Or.inl (eI _ (aI (Kk xs f g hl hf) ?_));rw[←Aj g xs 0 (by omega)];exact rfl
end Go.Proofs.Ytjpaeopdljfjpaa
