
/- Draws out of bytes: the source of the laws. -/
import Derived.Test.YtnamelcmcikeoaaShort
import Derived.Test.YtnamelcmcikeoaaWb
import Derived.Test.YtnamelcmcikeoaaVti
import Derived.Test.YtnamelcmcikeoaaValid
set_option maxRecDepth 100000
set_option linter.unusedSimpArgs false
set_option linter.unusedVariables false
namespace Go.Tr
open Go Go.RowKit
structure DS where
 k:Nat
 s:Int
def xZ(s b:Int):Int:=IntKind.u64.wrap (IntKind.u64.wrap (IntKind.u64.wrap (s*6364136223846793005)+IntKind.u64.wrap b)+1442695040888963407)
def oP(code:List Int)(k:Nat):Int:=bif decide ((k:Int)<(code.length:Nat))then IntKind.i64.wrap (elt 0 code (k:Nat))else 0
def DI(s:Int):Int:=IntKind.i64.wrap (bits .and .u64 (s.fdiv (2 ^ (min (40:Int).toNat IntKind.u64.bits))) 255)
def nx(code:List Int)(d:DS):Int×DS:=
 (bif decide (((d.k+1:Nat):Int)≤(code.length:Nat))then oP code d.k else DI (xZ d.s (oP code d.k)),⟨d.k+1,xZ d.s (oP code d.k)⟩)
def pk(code:List Int)(d:DS)(n:Int):Int×DS:=
 bif decide (n≤1)then(0,d)else bif decide (200<n)then
  ((IntKind.i64.wrap (IntKind.i64.wrap ((nx code d).1*256)+(nx code (nx code d).2).1)).tmod n,(nx code (nx code d).2).2)else((nx code d).1.tmod n,(nx code d).2)
def Bytes(code:List Int):Prop:=code.length≤1048576∧∀x∈code,0≤x∧x≤255
theorem Js{code:List Int}(h:Bytes code)(k:Nat):0≤oP code k∧oP code k≤255:=by
 unfold oP;cases hd:decide ((k:Int)<(code.length:Nat))with
 |false=>simp
 |true=>
  have hk:k<code.length:=by simpa using hd
  have hm:elt 0 code (k:Nat)∈code:=by
   unfold elt;rw[show(((k:Nat):Int)).toNat=k by omega,List.getD_eq_getElem?_getD,List.getElem?_eq_getElem hk];exact List.getElem_mem hk
  have:=h.2 _ hm;simp only[cond_true];rw[IntWalk.i64_in _ (by omega)];exact this
theorem La(s b:Int):0≤DI (xZ s b)∧DI (xZ s b)≤255:=by
 have h:∀y:Int,0≤IntKind.u64.wrap y∧IntKind.u64.wrap y<18446744073709551616:=fun y=>by
  have:IntKind.u64.wrap y=y % 18446744073709551616:=by simp[IntKind.wrap,IntKind.signed,IntKind.bits]
  rw[this];omega
 unfold DI xZ;have h1:=h (IntKind.u64.wrap (IntKind.u64.wrap (s*6364136223846793005)+IntKind.u64.wrap b)+1442695040888963407);generalize IntKind.u64.wrap (IntKind.u64.wrap (IntKind.u64.wrap (s*6364136223846793005)+IntKind.u64.wrap b)+1442695040888963407)=z at*
 have e:z.fdiv (2 ^ (min (40:Int).toNat IntKind.u64.bits))=z/1099511627776:=by
  have:((2:Int) ^ (min (40:Int).toNat IntKind.u64.bits))=1099511627776:=by decide
  rw[this,Int.fdiv_eq_ediv_of_nonneg _ (by decide)]
 rw[e,u64_and _ _ (by omega) (by omega) (by omega) (by omega)];have h2:(z/1099511627776).toNat&&& (255:Int).toNat≤255:=Nat.and_le_right;generalize (z/1099511627776).toNat&&& (255:Int).toNat=q at*;rw[IntWalk.i64_in _ (by omega)];omega
theorem Gs{code:List Int}(h:Bytes code)(d:DS):0≤(nx code d).1∧(nx code d).1≤255:=by
 unfold nx;simp only;cases decide (((d.k+1:Nat):Int)≤(code.length:Nat))with
 |true=>exact Js h _
 |false=>exact La _ _
theorem eO(code:List Int)(d:DS)(n:Int):d.k≤(pk code d n).2.k∧(pk code d n).2.k≤d.k+2:=by
 unfold pk;cases decide (n≤1)<;>cases decide (200<n)<;>simp[nx]<;>omega
theorem iy{code:List Int}(h:Bytes code)(d:DS)(n:Int):0≤(pk code d n).1:=by
 have h1:=Gs h d;have h2:=Gs h (nx code d).2;unfold pk;cases decide (n≤1)<;>cases decide (200<n)<;>simp only[cond_true,cond_false]<;>first|exact Int.le_refl _|skip
 ·exact Int.tmod_nonneg _ h1.1
 ·rw[IntWalk.i64_in ((nx code d).1*256) (by omega),IntWalk.i64_in _ (by omega)];exact Int.tmod_nonneg _ (by omega)
theorem dP{code:List Int}(h:Bytes code)(d:DS){n:Int}(hn:1≤n):(pk code d n).1<n:=by
 have h1:=Gs h d;have h2:=Gs h (nx code d).2;unfold pk;cases hd:decide (n≤1)<;>cases decide (200<n)<;>simp only[cond_true,cond_false]
 ·exact Int.tmod_lt_of_pos _ (by omega)
 ·exact Int.tmod_lt_of_pos _ (by omega)
 ·omega
 ·omega
def Je(code:List Int)(n:Int):Nat→DS→List Int
 |0,_=>[]
 |m+1,d=>(pk code d n).1 ::Je code n m (pk code d n).2
theorem Bf(code:List Int)(n:Int):∀(m:Nat) (d:DS),(Je code n m d).length=m
 |0,_=>rfl
 |m+1,d=>by rw[Je,List.length_cons,Bf]
theorem KI{code:List Int}(h:Bytes code){n:Int}(hn:1≤n):∀(m:Nat) (d:DS),∀x∈Je code n m d,0≤x∧x<n
 |0,_,x,hx=>by simp[Je]at hx
 |m+1,d,x,hx=>by
  rw[Je]at hx;rcases List.mem_cons.1 hx with rfl|hx
  ·exact⟨iy h _ _,dP h _ hn⟩
  ·exact KI h hn m _ x hx
theorem I9{i:Nat}(h:i≤1000000000):IntKind.i64.wrap (((i+1:Nat):Int)-1)=((i:Nat):Int):=by rw[IntWalk.i64_in _ (by omega)];omega
abbrev aU:U:=.int .u8
end Go.Tr
namespace Go.Proofs.Ytnamelcmcikeoaa
open Go Go.RowKit Go.Proofs Go.Tr
abbrev kE(code:List Int)(d:DS):List Tok:=[.aN 10000 69 [.rsl aU code,.int .i64 (d.k:Nat),.int .u64 d.s]]
section
variable (code:List Int)(d:DS)
theorem NT:aH Try.prog 13 [.rsl aU code] [] (.ptr 10000 0) (kE code ⟨0,0⟩):=by
 refine aH.intro (nt:=6) aS mixed (by kernel_rfl) Try.func13 rfl rfl rfl rfl rfl rfl ?_;refine fin [(10000,5)] (aI rfl ?_);exact⟨trivial,⟨rfl,⟨rfl,rfl⟩,⟨rfl,rfl⟩,trivial⟩,trivial⟩
theorem N8(hb:Bytes code)(hk:d.k≤100000000):aH Try.prog 35 [.ptr 10000 0] (kE code d) (.int .i64 (nx code d).1) (kE code (nx code d).2):=by
 refine aH.intro (nt:=62) aS mixed (by kernel_rfl) Try.func35 rfl rfl rfl rfl rfl rfl ?_;have hs:=eu (k:=d.k) (by omega);have e2:∀b,oP code d.k=b→(nx code d)=(bif decide (((d.k+1:Nat):Int)≤(code.length:Nat))then b else DI (xZ d.s b),⟨d.k+1,xZ d.s b⟩):=fun b e=>by subst e;rfl
 refine aI (by kernel_rfl) ?_;refine aI (fun q1=> ?_) (fun q1=> ?_)
 ·have hb1:oP code d.k=IntKind.i64.wrap (elt 0 code (d.k:Nat)):=by unfold oP;rw[show decide ((d.k:Int)<(code.length:Nat))=true from q1];rfl
  rw[e2 _ hb1];refine aI (show 0≤((d.k:Nat):Int)∧((d.k:Nat):Int)<(code.length:Nat) from⟨by omega,of_decide_eq_true q1⟩) ?_;refine aI (by kernel_rfl) ?_;refine aI (by kernel_rfl) ?_;refine aI (fun q2=> ?_) (fun q2=> ?_)
  ·have q3:decide (((d.k+1:Nat):Int)≤(code.length:Nat))=true:=by rw[←hs];exact q2
   rw[q3];refine fin [] (aI ⟨rfl,rfl⟩ ?_);exact⟨trivial,⟨rfl,⟨hs,rfl⟩,⟨rfl,rfl⟩,trivial⟩,trivial⟩
  ·have q3:decide (((d.k+1:Nat):Int)≤(code.length:Nat))=false:=by rw[←hs];exact q2
   rw[q3];refine aI (by decide) ?_;refine fin [] (aI ⟨rfl,rfl⟩ ?_);exact⟨trivial,⟨rfl,⟨hs,rfl⟩,⟨rfl,rfl⟩,trivial⟩,trivial⟩
 ·have hb1:oP code d.k=0:=by unfold oP;rw[show decide ((d.k:Int)<(code.length:Nat))=false from q1];rfl
  rw[e2 _ hb1];refine aI (by kernel_rfl) ?_;refine aI (fun q2=> ?_) (fun q2=> ?_)
  ·have q3:decide (((d.k+1:Nat):Int)≤(code.length:Nat))=true:=by rw[←hs];exact q2
   rw[q3];refine fin [] (aI ⟨rfl,rfl⟩ ?_);exact⟨trivial,⟨rfl,⟨hs,rfl⟩,⟨rfl,rfl⟩,trivial⟩,trivial⟩
  ·have q3:decide (((d.k+1:Nat):Int)≤(code.length:Nat))=false:=by rw[←hs];exact q2
   rw[q3];refine aI (by decide) ?_;refine fin [] (aI ⟨rfl,rfl⟩ ?_);exact⟨trivial,⟨rfl,⟨hs,rfl⟩,⟨rfl,rfl⟩,trivial⟩,trivial⟩
theorem bC(hb:Bytes code)(hk:d.k≤99999999)(n:Int):aH Try.prog 21 [.ptr 10000 0,.int .i64 n] (kE code d) (.int .i64 (pk code d n).1) (kE code (pk code d n).2):=by
 refine aH.intro (nt:=20) aS mixed (by kernel_rfl) Try.func21 rfl rfl rfl rfl rfl rfl ?_;have tk:∀d:DS,yx [.rsl aU code,.int .i64 (d.k:Nat),.int .u64 d.s] [.rsl aU code,.int .i64 (d.k:Nat),.int .u64 d.s]:=fun d=>⟨rfl,⟨rfl,rfl⟩,⟨rfl,rfl⟩,trivial⟩
 unfold pk;refine aI (fun q1=> ?_) (fun q1=> ?_)
 ·rw[show decide (n≤1)=true from q1];refine fin [] (aI ⟨rfl,rfl⟩ ?_);exact⟨trivial,tk _,trivial⟩
 have hn:n≠0:=by
  have:¬n≤1:=of_decide_eq_false q1;omega
 rw[show decide (n≤1)=false from q1];refine Or.inr (eI _ (eI _ (aI (N8 code d hb (by omega)) ?_)));refine aI (fun q2=> ?_) (fun q2=> ?_)
 ·rw[show decide (200<n)=true from q2];refine Or.inr (eI _ (eI _ (aI (N8 code (nx code d).2 hb (by show d.k+1≤_;omega)) ?_)));refine aI hn ?_;refine fin [] (aI ⟨rfl,rfl⟩ ?_);exact⟨trivial,tk _,trivial⟩
 ·rw[show decide (200<n)=false from q2];refine aI hn ?_;refine fin [] (aI ⟨rfl,rfl⟩ ?_);exact⟨trivial,tk _,trivial⟩
end
theorem Qr(code:List Int):aP Try.prog 4 [.rsl aU code] (.bool (decide (4096<(code.length:Int)))):=by
 refine aP.intro (nt:=6) aS mixed (by kernel_rfl) Try.func4 rfl rfl rfl rfl rfl ?_;exact rfl
theorem Il(code:List Int)(hb:Bytes code)(m:Nat)(hm:m≤1000000)(n:Int):aH Try.prog 9 [.rsl aU code,.int .i64 (m:Nat),.int .i64 n] [] (.sl 10000) [.row 10000 2 1 (.int .i64) (Je code n m ⟨0,0⟩) []]:=by
 refine aH.intro (nt:=25) aS mixed (by kernel_rfl) Try.func9 rfl rfl rfl rfl rfl rfl ?_;refine Or.inr (eI _ (eI _ (aI (NT code) ?_)));refine lp (List Int×Nat×DS) (fun s=>[(7,.ptr 20000 0),(8,.sl 20001),(9,.int .i64 (s.2.1:Nat))]) (fun s=>[.aN 20000 69 [.rsl aU code,.int .i64 (s.2.2.k:Nat),.int .u64 s.2.2.s],.row 20001 2 1 (.int .i64) s.1 []]) (fun s=>s.2.1) (fun s=>s.1++Je code n s.2.1 s.2.2=Je code n m ⟨0,0⟩∧s.2.2.k+2*s.2.1≤2*m) ([],m,⟨0,0⟩) ⟨rfl,by show 0+2*m≤2*m;omega⟩ ?_ ?_
 ·exact hd [(20000,11),(20001,12)] rfl (aI rfl (aI rfl (aI ⟨rfl,rfl⟩ trivial))) (aI trivial (aI ⟨rfl,⟨rfl,rfl⟩,⟨rfl,rfl⟩,trivial⟩ (aI ⟨rfl,nP⟩ trivial)))
 rintro⟨xs,j,d⟩ ⟨h1,h2⟩;have h2':d.k+2*j≤2*m:=h2
 have hl:xs.length+j=m:=by
  have:=congrArg List.length h1;simpa[Bf]using this
 refine aI (fun q1=> ?_) (fun q1=> ?_)
 ·have hj:0<j:=by have:0<((j:Nat):Int):=of_decide_eq_true q1;omega
  refine Or.inr (eI _ (eI _ (aI (bC code d hb (by omega) n) ?_)));refine aI (show xs.length+1≤1073741824 by omega) ?_;obtain⟨i,rfl⟩:∃i,j=i+1:=⟨j-1,by omega⟩;refine aJ (xs++[(pk code d n).1],i,(pk code d n).2) ⟨?_,?_⟩ ?_ ?_
  ·rw[←h1];show(xs++[_])++_=xs++Je code n (i+1) d
   rw[Je,List.append_assoc];rfl
  ·have:=eO code d n;show(pk code d n).2.k+2*i≤2*m;omega
  ·exact hd [(20001,23)] rfl (aI rfl (aI rfl (aI ⟨I9 (by omega),rfl⟩ trivial))) (aI trivial (aI ⟨rfl,⟨rfl,rfl⟩,⟨rfl,rfl⟩,trivial⟩ (aI ⟨rfl,nP⟩ trivial)))
  ·show i<i+1;omega
 ·have hj:j=0:=by have:¬0<((j:Nat):Int):=of_decide_eq_false q1;omega
  subst hj;refine fin [(10000,20001)] (aI rfl ?_);refine aI ⟨?_,nP⟩ trivial;rw[←h1];exact(List.append_nil xs).symm
end Go.Proofs.Ytnamelcmcikeoaa
