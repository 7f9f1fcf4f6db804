
/- Nets on the way are small. -/
import Derived.Test.YtemalpelcdmemaaGreatRg
set_option linter.unusedSimpArgs false
set_option linter.unusedVariables false
namespace Go.Tr
open Go Go.RowKit
def zP(P:List NAgent):Prop:=P.length≤3000∧∀a∈P,a.2.2.2.1.length≤4∧a.2.2.2.2.length≤4
theorem Gc{ys:List NAgent}:∀{n:Nat} {a:NAgent},a∈dZ ys n→∃k:Nat,k<n∧cB ys k=true∧a=sZ (lF ys) (ah ys (k:Nat))
 |0,a,h=>by cases h
 |n+1,a,h=>by
  unfold dZ at h;cases hl:cB ys n with
  |false=>
   rw[hl]at h;obtain⟨k,h1,h2,h3⟩:=Gc (n:=n) h;exact⟨k,by omega,h2,h3⟩
  |true=>
   rw[hl]at h;simp only[cond_true,List.mem_append,List.mem_singleton]at h;rcases h with h|h
   ·obtain⟨k,h1,h2,h3⟩:=Gc (n:=n) h;exact⟨k,by omega,h2,h3⟩
   ·exact⟨n,by omega,hl,h⟩
theorem Twin.Kv{kv:List (Int×Bool)}{xs ys:List NAgent}(T:Twin kv xs ys){k:Nat}(hk:k<ys.length)(h:Tr.cB ys k=true):Wf (ah ys (k:Nat)):=by
 have hl:=T.len;rw[T.cB (by omega)]at h
 have hd:¬Gone kv ((k:Nat):Int):=fun e=>by
  have e':bL false kv ((k:Nat):Int)=true:=e;rw[e']at h;cases h
 rw[T.at_ (by omega) (by omega) hd];exact T.wf _ (by omega) (by omega) hd
theorem Twin.OD{kv:List (Int×Bool)}{xs ys:List NAgent}(T:Twin kv xs ys)(h:xs.length≤3000):zP (packN ys):=by
 have hl:=T.len
 have hlen:∀n:Nat,(Tr.dZ ys n).length≤n:=fun n=>by
  induction n with
  |zero=>exact Nat.le_refl 0
  |succ n ih=>
   unfold Tr.dZ;cases Tr.cB ys n
   ·simp only[cond_false];omega
   ·simp only[cond_true,List.length_append,List.length_singleton];omega
 refine⟨Nat.le_trans (hlen ys.length) (by omega),fun a ha=> ?_⟩;obtain⟨k,h1,h2,rfl⟩:=Gc ha;have w:=T.Kv h1 h2;have w1:=wf_data w;have w2:=(gu w).2;refine⟨w1,?_⟩;show(List.map _ _).length≤4;rw[List.length_map];exact w2
end Go.Tr
namespace Go.Proofs.YtemalpelcdmemaaGreat
open Go Go.RowKit Go.Proofs Go.Tr
theorem Ni{kv:List (Int×Bool)}{xs ys:List NAgent}(T:Tr.Twin kv xs ys):vT xs kv:=fun i hi hg=>by
 have hd:¬Gone kv ((i:Nat):Int):=fun e=>by
  have e':bL false kv ((i:Nat):Int)=true:=e;rw[hg]at e';cases e'
 have w:=T.wf (i:Nat) (by omega) (by omega) hd;have w1:=wf_data w;have w2:=(gu w).2;omega
theorem Nj{kv:List (Int×Bool)}{xs ys:List NAgent}(T:Tr.Twin kv xs ys)(hl:xs.length≤1000000):NetSmall ys:=by
 have hlen:=T.len;refine⟨by omega,fun i=> ?_⟩
 by_cases hi:i<ys.length
 ·cases hv:cB ys i with
  |true=>
   have w:=T.Kv hi hv;have w1:=wf_data w;have w2:=(gu w).2;exact⟨by show(ah ys (i:Nat)).2.2.2.1.length≤1048576;omega,by show(ah ys (i:Nat)).2.2.2.2.length≤1048576;omega⟩
  |false=>
   rw[T.cB (by omega)]at hv
   have hg:Gone kv ((i:Nat):Int):=by
    show bL false kv ((i:Nat):Int)=true;cases hq:bL false kv ((i:Nat):Int)with
    |true=>rfl
    |false=>rw[hq]at hv;cases hv
   rw[(T.hole _ hg).2];decide
 ·rw[pO (by omega)];decide
end Go.Proofs.YtemalpelcdmemaaGreat
