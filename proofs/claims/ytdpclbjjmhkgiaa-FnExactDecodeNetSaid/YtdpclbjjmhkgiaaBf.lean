
/- Drawn nets: chains of states, the ports that are left. -/
import Derived.Test.YtdpclbjjmhkgiaaBe
import Derived.Test.YtdpclbjjmhkgiaaVV
set_option linter.unusedSimpArgs false
set_option linter.unusedVariables false
namespace Go.Tr
open Go Go.RowKit
theorem qM{a b:Nat}(h:decide (((a:Nat):Int)<((b:Nat):Int))=true):a<b:=by have:=of_decide_eq_true h;omega
theorem qI{a b:Nat}(h:decide (((a:Nat):Int)<((b:Nat):Int))=false):b≤a:=by have:=of_decide_eq_false h;omega
theorem exB{σ:Type}(g0:Nat)(T:σ→List Tok):∀(s:σ) (K:List Tok→Prop) (cx:Cx) (β:Nat→Value) (w:World) (R:List dF),gT g0 (T s) K→Inv cx.w0 cx.F0 w ((T s).map (Tok.res cx β)++R)→∃rs',K rs'∧Inv cx.w0 cx.F0 w (rs'.map (Tok.res cx β)++R):=fun s K cx β w R h hI=>by
 obtain⟨l',h1,_,h3⟩:=jc h hI;exact⟨l',h1,h3⟩
def zK(pb:Nat→Bool)(i:Nat):Nat→List aB→List aB
 |0,S=>S
 |k+1,S=>zK pb i k S++(bif (((k:Nat):Int)==0)&&pb i then[]else[(((i:Nat):Int),((k:Nat):Int))])
def sG(pb:Nat→Bool)(xs:List ah):Nat→List aB
 |0=>[]
 |i+1=>zK pb i (ak xs (i:Nat)).2.2.2.2.length (sG pb xs i)
theorem Ee(pb:Nat→Bool)(i:Nat)(S:List aB)(p:aB):∀k,p∈zK pb i k S↔p∈S∨(p.1=(i:Nat)∧0≤p.2∧p.2<(k:Nat)∧¬(p.2=0∧pb i=true))
 |0=>by
  rw[zK];exact⟨.inl,fun h=>h.elim id fun h=>by omega⟩
 |k+1=>by
  rw[zK,List.mem_append,Ee pb i S p k];cases hb:(((k:Nat):Int)==0)&&pb i with
  |true=>
   rw[Bool.and_eq_true,beq_iff_eq]at hb;simp only[cond_true,List.not_mem_nil,or_false];constructor
   ·rintro(h|⟨h1,h2,h3,h4⟩)
    ·exact .inl h
    ·exact .inr ⟨h1,h2,by omega,h4⟩
   ·rintro(h|⟨h1,h2,h3,h4⟩)
    ·exact .inl h
    ·exact absurd ⟨by omega,hb.2⟩ h4
  |false=>
   simp only[cond_false,List.mem_singleton];constructor
   ·rintro((h|⟨h1,h2,h3,h4⟩)|rfl)
    ·exact .inl h
    ·exact .inr ⟨h1,h2,by omega,h4⟩
    ·refine .inr ⟨rfl,by show(0:Int)≤(k:Nat);omega,by show((k:Nat):Int)<((k+1:Nat):Int);omega,fun e=> ?_⟩;have e1:((k:Nat):Int)=0:=e.1;rw[show(((k:Nat):Int)==0)=true by rw[e1];rfl,e.2]at hb;cases hb
   ·rintro(h|⟨h1,h2,h3,h4⟩)
    ·exact .inl (.inl h)
    ·by_cases e:p.2=(k:Nat)
     ·exact .inr (dh h1 e)
     ·exact .inl (.inr ⟨h1,h2,by omega,h4⟩)
theorem Ec(pb:Nat→Bool)(xs:List ah)(p:aB):∀i,p∈sG pb xs i↔0≤p.1∧p.1<(i:Nat)∧0≤p.2∧p.2<((ak xs p.1).2.2.2.2.length:Nat)∧¬(p.2=0∧pb p.1.toNat=true)
 |0=>by
  rw[sG];exact⟨fun h=>(by cases h),fun h=>by omega⟩
 |i+1=>by
  rw[sG,Ee,Ec pb xs p i];constructor
  ·rintro(⟨h1,h2,h3⟩|⟨h1,h2,h3,h4⟩)
   ·exact⟨h1,by omega,h3⟩
   ·have e:p.1.toNat=i:=by omega
    rw[h1];refine⟨by omega,by omega,h2,h3,?_⟩;rw[Int.toNat_natCast];exact h4
  ·rintro⟨h1,h2,h3,h4,h5⟩
   by_cases e:p.1=(i:Nat)
   ·rw[e]at h4 h5;rw[Int.toNat_natCast]at h5;exact .inr ⟨e,h3,h4,h5⟩
   ·exact .inl ⟨h1,by omega,h3,h4,h5⟩
theorem Ed(pb:Nat→Bool)(i:Nat)(S:List aB):∀k,(zK pb i k S).length≤S.length+k
 |0=>Nat.le_refl _
 |k+1=>by
  have:=Ed pb i S k;rw[zK,List.length_append];cases (((k:Nat):Int)==0)&&pb i<;>simp<;>omega
theorem uD{pb:Nat→Bool}{xs:List ah}(h:∀i:Nat,i<xs.length→(ak xs (i:Nat)).2.2.2.2.length≤4):∀i,i≤xs.length→(sG pb xs i).length≤4*i
 |0,_=>Nat.le_refl _
 |i+1,hi=>by
  have h1:=uD (pb:=pb) h i (by omega);have h2:=Ed pb i (sG pb xs i) (ak xs (i:Nat)).2.2.2.2.length;have h3:=h i (by omega);rw[sG];omega
end Go.Tr
namespace Go.Proofs.Ytdpclbjjmhkgiaa
open Go Go.RowKit Go.Proofs Go.Tr
end Go.Proofs.Ytdpclbjjmhkgiaa
