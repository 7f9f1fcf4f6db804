
/- Decimals: what ParseInt reads of a numeral, with and without a zero in front. No program in it. -/
import Derived.Test.YtpdipfohnpopmaaDoorVh
import Derived.Lib.ParseIntB
import Derived.Lib.ParseIntBCases
set_option linter.unusedSimpArgs false
set_option linter.unusedVariables false
namespace Go.Tr
open Go Go.Lib
theorem Ep{k:Nat}(h:k<10):(UInt8.ofNat (48+k)).toNat=48+k:=by
 have:(48+k) % 2 ^ 8=48+k:=Nat.mod_eq_of_lt (by omega);simpa[UInt8.toNat_ofNat']using this
theorem gT(M:Nat):∀(l:List UInt8) (a u k:Nat),parseUintM M a l=.ok u->k<10->u<1844674407370955162->u*10+k<=M->parseUintM M a (l++[UInt8.ofNat (48+k)])=.ok (u*10+k)
 |[],a,u,k,h,hk,hu,hM=>by
  unfold parseUintM at h;injection h with h
  subst h;rw[List.nil_append];unfold parseUintM;rw[Ep hk,if_pos (by omega),if_neg (by omega),show 48+k-48=k by omega,if_neg (by omega)];unfold parseUintM;rfl
 |c::l,a,u,k,h,hk,hu,hM=>by
  unfold parseUintM at h;rw[List.cons_append];unfold parseUintM;split at h
  .rename_i h1;rw[if_pos h1];split at h
   .cases h
   .rename_i h2;rw[if_neg h2];split at h
    .cases h
    .rename_i h3;rw[if_neg h3];exact gT M l _ u k h hk hu hM
  .cases h
theorem iC(M:Nat):∀(n u:Nat),u<=n->u<=4294967296->4294967296<=M->parseUintM M 0 (decDigits u)=.ok u
 |n,u,hn,hu,hM=>by
  rw[decDigits];split
  .rename_i h;have:=gT M [] 0 0 u (by unfold parseUintM;rfl) h (by omega) (by omega);simpa using this
  .rename_i h;cases n with
   |zero=>omega
   |succ n=>
    have ih:=iC M n (u/10) (by omega) (by omega) hM;have:=gT M _ 0 (u/10) (u % 10) ih (by omega) (by omega) (by omega);rw[this,show u/10*10+u % 10=u by omega]
theorem lU:∀(n u:Nat),u<=n->∃c r,decDigits u=c::r/\48<=c.toNat/\c.toNat<=57
 |n,u,hn=>by
  rw[decDigits];split
  .rename_i h;exact⟨_,[],rfl,by rw[Ep h];omega,by rw[Ep h];omega⟩
  .rename_i h;cases n with
   |zero=>omega
   |succ n=>
    obtain⟨c,r,e,h1,h2⟩:=lU n (u/10) (by omega);exact⟨c,r++_,by rw[e];rfl,h1,h2⟩
theorem mF(M:Nat)(l:List UInt8):parseUintM M 0 (48::l)=parseUintM M 0 l:=by
 rw[parseUintM];rw[if_pos (by decide),if_neg (by decide),if_neg (by simp)];rfl
theorem sK(M:Nat)(l:List UInt8):parseUintM M 0 (45::l)=.syntax:=by
 rw[parseUintM];rw[if_neg (by decide)]
theorem kP{u:Nat}(h:u<=4294967296):signlessC (2 ^ (64-1)) (.ok u)=.ok (u:Int):=by
 show(if 2 ^ (64-1)<=u then _ else _)=_;rw[if_neg];have:(2:Nat) ^ (64-1)=9223372036854775808:=by decide
 omega
theorem xg{u:Nat}(h:u<=4294967296):signedC (2 ^ (64-1)) (.ok u)=.ok (-(u:Int)):=by
 show(if 2 ^ (64-1)<u then _ else _)=_;rw[if_neg];have:(2:Nat) ^ (64-1)=9223372036854775808:=by decide
 omega
theorem uH{n:Int}(h0: -2147483648<=n)(h1:n<=2147483647):parseIntB 64 (itoa n)=.ok n:=by
 unfold itoa;split
 .rename_i h;obtain⟨c,r,e,_,_⟩:=lU _ n.natAbs (Nat.le_refl _);have hp:=iC (2 ^ 64-1) _ n.natAbs (Nat.le_refl _) (by omega) (by decide);rw[parseIntB_minus];unfold parseUintB;rw[if_neg (by rw[e];simp),hp,xg (by omega),show(-(n.natAbs:Int))=n by omega]
 .rename_i h;obtain⟨c,r,e,q1,q2⟩:=lU _ n.toNat (Nat.le_refl _);have hp:=iC (2 ^ 64-1) _ n.toNat (Nat.le_refl _) (by omega) (by decide);rw[e]at hp |-;rw[parseIntB_plain 64 c r (by omega) (by omega)];unfold parseUintB;rw[if_neg (by simp),hp,kP (by omega),show((n.toNat:Nat):Int)=n by omega]
theorem sM{n:Int}(h0:0<=n)(h1:n<=2147483647):parseIntB 64 (48::itoa n)=.ok n:=by
 have hp:=iC (2 ^ 64-1) _ n.toNat (Nat.le_refl _) (by omega) (by decide);unfold itoa;rw[if_neg (by omega),parseIntB_plain 64 48 _ (by decide) (by decide)];unfold parseUintB;rw[if_neg (by simp),mF,hp,kP (by omega),show((n.toNat:Nat):Int)=n by omega]
theorem uI{n:Int}(h0:n<0):parseIntB 64 (48::itoa n)=.syntax:=by
 unfold itoa;rw[if_pos h0,parseIntB_plain 64 48 _ (by decide) (by decide)];unfold parseUintB;rw[if_neg (by simp),mF,sK];rfl
theorem vL:∀(n u:Nat),u<=n->u<=4294967296->(decDigits u).length<=10
 |n,u,_,hu=>by
  rw[decDigits_length];rcases Nat.lt_or_ge 10 (nDigits u)with h|h
  .exfalso
   have key:∀(k v:Nat),k+1<nDigits v->10 ^ (k+1)<=v:=by
    intro k
    induction k with
    |zero=>
     intro v hv
     by_cases h10:v<10
     .rw[nDigits_small h10]at hv;omega
     .omega
    |succ k ih=>
     intro v hv
     by_cases h10:v<10
     .rw[nDigits_small h10]at hv;omega
     .rw[nDigits_big h10]at hv;have:=ih (v/10) (by omega);rw[Nat.pow_succ];omega
   have:=key 9 u (by omega);have h10:(10:Nat) ^ (9+1)=10000000000:=by decide
   omega
  .exact h
theorem lZ{n:Int}(h0: -2147483648<=n)(h1:n<=2147483647):(itoa n).length<=11:=by
 unfold itoa;split
 .have:=vL _ n.natAbs (Nat.le_refl _) (by omega);simp only[qI];omega
 .have:=vL _ n.toNat (Nat.le_refl _) (by omega);omega
def iN(n:Int):ByteArray:=⟨(itoa n).toArray⟩
theorem wH(n:Int):(iN n).data.toList=itoa n:=rfl
theorem jO(n:Int):(iN n).size=(itoa n).length:=by simp[iN,ByteArray.size]
def jJ(n:Int):ByteArray:=(⟨#[48]⟩:ByteArray)++iN n
theorem iZ(n:Int):(jJ n).data.toList=48::itoa n:=by simp[jJ,iN]
theorem nC(n:Int):(jJ n).size=(itoa n).length+1:=by
 show(jJ n).data.size=_;rw[<-Array.length_toList,iZ];rfl
theorem Bp(n:Int):iN n≠jJ n:=fun h=>by
 have:=congrArg ByteArray.size h;rw[jO,nC]at this;omega
end Go.Tr
