
/- Draws out of bytes: the source of the laws. -/
import Derived.Test.YtjpaeopdljfjpaaShort
import Derived.Test.YtjpaeopdljfjpaaWb
import Derived.Test.YtjpaeopdljfjpaaVti
import Derived.Test.YtjpaeopdljfjpaaNet
set_option maxRecDepth 100000
set_option linter.unusedSimpArgs false
set_option linter.unusedVariables false
namespace Go.Tr
open Go Go.RowKit
structure DS where
 k:Nat
 s:Int
def wS(s b:Int):Int:=IntKind.u64.wrap (IntKind.u64.wrap (IntKind.u64.wrap (s*6364136223846793005)+IntKind.u64.wrap b)+1442695040888963407)
def nM(code:List Int)(k:Nat):Int:=bif decide ((k:Int)<(code.length:Nat))then IntKind.i64.wrap (elt 0 code (k:Nat))else 0
def Bg(s:Int):Int:=IntKind.i64.wrap (bits .and .u64 (s.fdiv (2 ^ (min (40:Int).toNat IntKind.u64.bits))) 255)
def nx(code:List Int)(d:DS):Int×DS:=
 (bif decide (((d.k+1:Nat):Int)≤(code.length:Nat))then nM code d.k else Bg (wS d.s (nM code d.k)),⟨d.k+1,wS d.s (nM code d.k)⟩)
def pk(code:List Int)(d:DS)(n:Int):Int×DS:=
 bif decide (n≤1)then(0,d)else bif decide (200<n)then
  ((IntKind.i64.wrap (IntKind.i64.wrap ((nx code d).1*256)+(nx code (nx code d).2).1)).tmod n,(nx code (nx code d).2).2)else((nx code d).1.tmod n,(nx code d).2)
def Bytes(code:List Int):Prop:=code.length≤1048576∧∀x∈code,0≤x∧x≤255
theorem E9{code:List Int}(h:Bytes code)(k:Nat):0≤nM code k∧nM code k≤255:=by
 unfold nM;cases hd:decide ((k:Int)<(code.length:Nat))with
 |false=>simp
 |true=>
  have hk:k<code.length:=by simpa using hd
  have hm:elt 0 code (k:Nat)∈code:=by
   unfold elt;rw[show(((k:Nat):Int)).toNat=k by omega,qC,qB hk];exact List.getElem_mem hk
  have:=h.2 _ hm;simp only[qG];rw[qO _ (by omega)];exact this
theorem GK(s b:Int):0≤Bg (wS s b)∧Bg (wS s b)≤255:=by
 have h:∀y:Int,0≤IntKind.u64.wrap y∧IntKind.u64.wrap y<18446744073709551616:=fun y=>by
  have:IntKind.u64.wrap y=y % 18446744073709551616:=by simp[IntKind.wrap,IntKind.signed,IntKind.bits]
  rw[this];omega
 unfold Bg wS;have h1:=h (IntKind.u64.wrap (IntKind.u64.wrap (s*6364136223846793005)+IntKind.u64.wrap b)+1442695040888963407);generalize IntKind.u64.wrap (IntKind.u64.wrap (IntKind.u64.wrap (s*6364136223846793005)+IntKind.u64.wrap b)+1442695040888963407)=z at*
 have e:z.fdiv (2 ^ (min (40:Int).toNat IntKind.u64.bits))=z/1099511627776:=by
  have:((2:Int) ^ (min (40:Int).toNat IntKind.u64.bits))=1099511627776:=by decide
  rw[this,Int.fdiv_eq_ediv_of_nonneg _ (by decide)]
 rw[e,u64_and _ _ (by omega) (by omega) (by omega) (by omega)];have h2:(z/1099511627776).toNat&&& (255:Int).toNat≤255:=Nat.and_le_right;generalize (z/1099511627776).toNat&&& (255:Int).toNat=q at*;rw[qO _ (by omega)];omega
theorem Dp{code:List Int}(h:Bytes code)(d:DS):0≤(nx code d).1∧(nx code d).1≤255:=by
 unfold nx;simp only;cases decide (((d.k+1:Nat):Int)≤(code.length:Nat))with
 |true=>exact E9 h _
 |false=>exact GK _ _
theorem LZ(code:List Int)(d:DS)(n:Int):d.k≤(pk code d n).2.k∧(pk code d n).2.k≤d.k+2:=by
 unfold pk;cases decide (n≤1)<;>cases decide (200<n)<;>simp[nx]<;>omega
theorem K4{code:List Int}(h:Bytes code)(d:DS)(n:Int):0≤(pk code d n).1:=by
 have h1:=Dp h d;have h2:=Dp h (nx code d).2;unfold pk;cases decide (n≤1)<;>cases decide (200<n)<;>simp only[qG,qH]<;>first|exact Int.le_refl _|skip
 ·exact Int.tmod_nonneg _ h1.1
 ·rw[qO ((nx code d).1*256) (by omega),qO _ (by omega)];exact Int.tmod_nonneg _ (by omega)
theorem JG{code:List Int}(h:Bytes code)(d:DS){n:Int}(hn:1≤n):(pk code d n).1<n:=by
 have h1:=Dp h d;have h2:=Dp h (nx code d).2;unfold pk;cases hd:decide (n≤1)<;>cases decide (200<n)<;>simp only[qG,qH]
 ·exact Int.tmod_lt_of_pos _ (by omega)
 ·exact Int.tmod_lt_of_pos _ (by omega)
 ·omega
 ·omega
def EG(code:List Int)(n:Int):Nat→DS→List Int
 |0,_=>[]
 |m+1,d=>(pk code d n).1 ::EG code n m (pk code d n).2
theorem zk(code:List Int)(n:Int):∀(m:Nat) (d:DS),(EG code n m d).length=m
 |0,_=>rfl
 |m+1,d=>by rw[EG,qI,zk]
theorem Gl{code:List Int}(h:Bytes code){n:Int}(hn:1≤n):∀(m:Nat) (d:DS),∀x∈EG code n m d,0≤x∧x<n
 |0,_,x,hx=>by simp[EG]at hx
 |m+1,d,x,hx=>by
  rw[EG]at hx;rcases List.mem_cons.1 hx with rfl|hx
  ·exact⟨K4 h _ _,JG h _ hn⟩
  ·exact Gl h hn m _ x hx
theorem EC{i:Nat}(h:i≤1000000000):IntKind.i64.wrap (((i+1:Nat):Int)-1)=((i:Nat):Int):=by rw[qO _ (by omega)];omega
abbrev pF:U:=.int .u8
end Go.Tr
namespace Go.Proofs.Ytjpaeopdljfjpaa
open Go Go.RowKit Go.Proofs Go.Tr
abbrev GJ(code:List Int)(d:DS):List Tok:=[.gG 10000 79 [.rsl pF code,.int .i64 (d.k:Nat),.int .u64 d.s]]
section
variable (code:List Int)(d:DS)
theorem JA:eX Try.prog 22 [.rsl pF code] [] (.ptr 10000 0) (GJ code ⟨0,0⟩):=by
 refine eX.intro (nt:=6) jv mixed (by kernel_rfl) Try.func22 rfl rfl rfl rfl rfl rfl ?_;refine fin [(10000,5)] (aI rfl ?_);exact⟨trivial,⟨rfl,⟨rfl,rfl⟩,⟨rfl,rfl⟩,trivial⟩,trivial⟩
theorem JE(hb:Bytes code)(hk:d.k≤100000000):eX Try.prog 54 [.ptr 10000 0] (GJ code d) (.int .i64 (nx code d).1) (GJ code (nx code d).2):=by
 refine eX.intro (nt:=62) jv mixed (by kernel_rfl) Try.func54 rfl rfl rfl rfl rfl rfl ?_;have hs:=Bp (k:=d.k) (by omega);have e2:∀b,nM code d.k=b→(nx code d)=(bif decide (((d.k+1:Nat):Int)≤(code.length:Nat))then b else Bg (wS d.s b),⟨d.k+1,wS d.s b⟩):=fun b e=>by subst e;rfl
 refine aI (by kernel_rfl) ?_;refine aI (fun q1=> ?_) (fun q1=> ?_)
 ·have hb1:nM code d.k=IntKind.i64.wrap (elt 0 code (d.k:Nat)):=by unfold nM;rw[show decide ((d.k:Int)<(code.length:Nat))=true from q1];rfl
  rw[e2 _ hb1];refine aI (show 0≤((d.k:Nat):Int)∧((d.k:Nat):Int)<(code.length:Nat) from⟨by omega,of_decide_eq_true q1⟩) ?_;refine aI (by kernel_rfl) ?_;refine aI (by kernel_rfl) ?_;refine aI (fun q2=> ?_) (fun q2=> ?_)
  ·have q3:decide (((d.k+1:Nat):Int)≤(code.length:Nat))=true:=by rw[←hs];exact q2
   rw[q3];refine fin [] (aI ⟨rfl,rfl⟩ ?_);exact⟨trivial,⟨rfl,⟨hs,rfl⟩,⟨rfl,rfl⟩,trivial⟩,trivial⟩
  ·have q3:decide (((d.k+1:Nat):Int)≤(code.length:Nat))=false:=by rw[←hs];exact q2
   rw[q3];refine aI (by decide) ?_;refine fin [] (aI ⟨rfl,rfl⟩ ?_);exact⟨trivial,⟨rfl,⟨hs,rfl⟩,⟨rfl,rfl⟩,trivial⟩,trivial⟩
 ·have hb1:nM code d.k=0:=by unfold nM;rw[show decide ((d.k:Int)<(code.length:Nat))=false from q1];rfl
  rw[e2 _ hb1];refine aI (by kernel_rfl) ?_;refine aI (fun q2=> ?_) (fun q2=> ?_)
  ·have q3:decide (((d.k+1:Nat):Int)≤(code.length:Nat))=true:=by rw[←hs];exact q2
   rw[q3];refine fin [] (aI ⟨rfl,rfl⟩ ?_);exact⟨trivial,⟨rfl,⟨hs,rfl⟩,⟨rfl,rfl⟩,trivial⟩,trivial⟩
  ·have q3:decide (((d.k+1:Nat):Int)≤(code.length:Nat))=false:=by rw[←hs];exact q2
   rw[q3];refine aI (by decide) ?_;refine fin [] (aI ⟨rfl,rfl⟩ ?_);exact⟨trivial,⟨rfl,⟨hs,rfl⟩,⟨rfl,rfl⟩,trivial⟩,trivial⟩
theorem JF(hb:Bytes code)(hk:d.k≤99999999)(n:Int):eX Try.prog 23 [.ptr 10000 0,.int .i64 n] (GJ code d) (.int .i64 (pk code d n).1) (GJ code (pk code d n).2):=by
 refine eX.intro (nt:=20) jv mixed (by kernel_rfl) Try.func23 rfl rfl rfl rfl rfl rfl ?_;have tk:∀d:DS,w9 [.rsl pF code,.int .i64 (d.k:Nat),.int .u64 d.s] [.rsl pF code,.int .i64 (d.k:Nat),.int .u64 d.s]:=fun d=>⟨rfl,⟨rfl,rfl⟩,⟨rfl,rfl⟩,trivial⟩
 unfold pk;refine aI (fun q1=> ?_) (fun q1=> ?_)
 ·rw[show decide (n≤1)=true from q1];refine fin [] (aI ⟨rfl,rfl⟩ ?_);exact⟨trivial,tk _,trivial⟩
 have hn:n≠0:=by
  have:¬n≤1:=of_decide_eq_false q1;omega
 rw[show decide (n≤1)=false from q1];refine Or.inr (eI _ (eI _ (aI (JE code d hb (by omega)) ?_)));refine aI (fun q2=> ?_) (fun q2=> ?_)
 ·rw[show decide (200<n)=true from q2];refine Or.inr (eI _ (eI _ (aI (JE code (nx code d).2 hb (by show d.k+1≤_;omega)) ?_)));refine aI hn ?_;refine fin [] (aI ⟨rfl,rfl⟩ ?_);exact⟨trivial,tk _,trivial⟩
 ·rw[show decide (200<n)=false from q2];refine aI hn ?_;refine fin [] (aI ⟨rfl,rfl⟩ ?_);exact⟨trivial,tk _,trivial⟩
end
theorem LH(code:List Int):gD Try.prog 6 [.rsl pF code] (.bool (decide (4096<(code.length:Int)))):=by
 refine gD.intro (nt:=6) jv mixed (by kernel_rfl) Try.func6 rfl rfl rfl rfl rfl ?_;exact rfl
theorem F6(code:List Int)(hb:Bytes code)(n:Int):gD Try.prog 8 [.rsl pF code,.int .i64 n] (.int .i64 (pk code ⟨0,0⟩ n).1):=by
 refine gD.intro (nt:=9) jv mixed (by kernel_rfl) Try.func8 rfl rfl rfl rfl rfl ?_;refine Or.inr (eI _ (eI _ (aI (JA code) ?_)));refine Or.inr (eI _ (eI _ (aI (JF code ⟨0,0⟩ hb (by decide) n) ?_)));exact⟨rfl,rfl⟩
theorem Ed(code:List Int)(hb:Bytes code)(m:Nat)(hm:m≤1000000)(n:Int):eX Try.prog 7 [.rsl pF code,.int .i64 (m:Nat),.int .i64 n] [] (.sl 10000) [.row 10000 2 1 (.int .i64) (EG code n m ⟨0,0⟩) []]:=by
 refine eX.intro (nt:=25) jv mixed (by kernel_rfl) Try.func7 rfl rfl rfl rfl rfl rfl ?_;refine Or.inr (eI _ (eI _ (aI (JA code) ?_)));refine lp (List Int×Nat×DS) (fun s=>[(7,.ptr 20000 0),(8,.sl 20001),(9,.int .i64 (s.2.1:Nat))]) (fun s=>[.gG 20000 79 [.rsl pF code,.int .i64 (s.2.2.k:Nat),.int .u64 s.2.2.s],.row 20001 2 1 (.int .i64) s.1 []]) (fun s=>s.2.1) (fun s=>s.1++EG code n s.2.1 s.2.2=EG code n m ⟨0,0⟩∧s.2.2.k+2*s.2.1≤2*m) ([],m,⟨0,0⟩) ⟨rfl,by show 0+2*m≤2*m;omega⟩ ?_ ?_
 ·exact hd [(20000,11),(20001,12)] rfl (aI rfl (aI rfl (aI ⟨rfl,rfl⟩ trivial))) (aI trivial (aI ⟨rfl,⟨rfl,rfl⟩,⟨rfl,rfl⟩,trivial⟩ (aI ⟨rfl,nP⟩ trivial)))
 rintro⟨xs,j,d⟩ ⟨h1,h2⟩;have h2':d.k+2*j≤2*m:=h2
 have hl:xs.length+j=m:=by
  have:=congrArg List.length h1;simpa[zk]using this
 refine aI (fun q1=> ?_) (fun q1=> ?_)
 ·have hj:0<j:=by have:0<((j:Nat):Int):=of_decide_eq_true q1;omega
  refine Or.inr (eI _ (eI _ (aI (JF code d hb (by omega) n) ?_)));refine aI (show xs.length+1≤1073741824 by omega) ?_;obtain⟨i,rfl⟩:∃i,j=i+1:=⟨j-1,by omega⟩;refine oL (xs++[(pk code d n).1],i,(pk code d n).2) ⟨?_,?_⟩ ?_ ?_
  ·rw[←h1];show(xs++[_])++_=xs++EG code n (i+1) d
   rw[EG,qF];rfl
  ·have:=LZ code d n;show(pk code d n).2.k+2*i≤2*m;omega
  ·exact hd [(20001,23)] rfl (aI rfl (aI rfl (aI ⟨EC (by omega),rfl⟩ trivial))) (aI trivial (aI ⟨rfl,⟨rfl,rfl⟩,⟨rfl,rfl⟩,trivial⟩ (aI ⟨rfl,nP⟩ trivial)))
  ·show i<i+1;omega
 ·have hj:j=0:=by have:¬0<((j:Nat):Int):=of_decide_eq_false q1;omega
  subst hj;refine fin [(10000,20001)] (aI rfl ?_);refine aI ⟨?_,nP⟩ trivial;rw[←h1];exact(qS xs).symm
end Go.Proofs.Ytjpaeopdljfjpaa
