
/- Draws out of bytes: the source of the laws. -/
import Derived.Test.YtpdipfohnpopmaaDoorWb
import Derived.Test.YtpdipfohnpopmaaDoorVti
set_option linter.unusedSimpArgs false
set_option linter.unusedVariables false
namespace Go.Tr
open Go Go.RowKit
structure DS where
 k:Nat
 s:Int
def mO(s b:Int):Int:=IntKind.u64.wrap (IntKind.u64.wrap (IntKind.u64.wrap (s*6364136223846793005)+IntKind.u64.wrap b)+1442695040888963407)
def gL(code:List Int)(k:Nat):Int:=bif decide ((k:Int)<(code.length:Nat))then IntKind.i64.wrap (elt 0 code (k:Nat))else 0
def tF(s:Int):Int:=IntKind.i64.wrap (bits .and .u64 (s.fdiv (2 ^ (min (40:Int).toNat IntKind.u64.bits))) 255)
def nx(code:List Int)(d:DS):Int×DS:=
 (bif decide (((d.k+1:Nat):Int)<=(code.length:Nat))then gL code d.k else tF (mO d.s (gL code d.k)),⟨d.k+1,mO d.s (gL code d.k)⟩)
def pk(code:List Int)(d:DS)(n:Int):Int×DS:=
 bif decide (n<=1)then(0,d)else bif decide (200<n)then
  ((IntKind.i64.wrap (IntKind.i64.wrap ((nx code d).1*256)+(nx code (nx code d).2).1)).tmod n,(nx code (nx code d).2).2)else((nx code d).1.tmod n,(nx code d).2)
def Bytes(code:List Int):Prop:=code.length<=1048576/\∀x∈code,0<=x/\x<=255
theorem xU{code:List Int}(h:Bytes code)(k:Nat):0<=gL code k/\gL code k<=255:=by
 unfold gL;cases hd:decide ((k:Int)<(code.length:Nat))with
 |false=>simp
 |true=>
  have hk:k<code.length:=by simpa using hd
  have hm:elt 0 code (k:Nat)∈code:=by
   unfold elt;rw[show(((k:Nat):Int)).toNat=k by omega,qC,qB hk];exact List.getElem_mem hk
  have:=h.2 _ hm;simp only[qG];rw[qO _ (by omega)];exact this
theorem zL(s b:Int):0<=tF (mO s b)/\tF (mO s b)<=255:=by
 have h:∀y:Int,0<=IntKind.u64.wrap y/\IntKind.u64.wrap y<18446744073709551616:=fun y=>by
  have:IntKind.u64.wrap y=y % 18446744073709551616:=by simp[IntKind.wrap,IntKind.signed,IntKind.bits]
  rw[this];omega
 unfold tF mO;have h1:=h (IntKind.u64.wrap (IntKind.u64.wrap (s*6364136223846793005)+IntKind.u64.wrap b)+1442695040888963407);generalize IntKind.u64.wrap (IntKind.u64.wrap (IntKind.u64.wrap (s*6364136223846793005)+IntKind.u64.wrap b)+1442695040888963407)=z at*
 have e:z.fdiv (2 ^ (min (40:Int).toNat IntKind.u64.bits))=z/1099511627776:=by
  have:((2:Int) ^ (min (40:Int).toNat IntKind.u64.bits))=1099511627776:=by decide
  rw[this,Int.fdiv_eq_ediv_of_nonneg _ (by decide)]
 rw[e,u64_and _ _ (by omega) (by omega) (by omega) (by omega)];have h2:(z/1099511627776).toNat&&& (255:Int).toNat<=255:=Nat.and_le_right;generalize (z/1099511627776).toNat&&& (255:Int).toNat=q at*;rw[qO _ (by omega)];omega
theorem vR{code:List Int}(h:Bytes code)(d:DS):0<=(nx code d).1/\(nx code d).1<=255:=by
 unfold nx;simp only;cases decide (((d.k+1:Nat):Int)<=(code.length:Nat))with
 |true=>exact xU h _
 |false=>exact zL _ _
theorem wW(code:List Int)(d:DS)(n:Int):d.k<=(pk code d n).2.k/\(pk code d n).2.k<=d.k+2:=by
 unfold pk;cases decide (n<=1)<;>cases decide (200<n)<;>simp[nx]<;>omega
theorem sP{code:List Int}(h:Bytes code)(d:DS)(n:Int):0<=(pk code d n).1:=by
 have h1:=vR h d;have h2:=vR h (nx code d).2;unfold pk;cases decide (n<=1)<;>cases decide (200<n)<;>simp only[qG,qH]<;>first|exact Int.le_refl _|skip
 .exact Int.tmod_nonneg _ h1.1
 .rw[qO ((nx code d).1*256) (by omega),qO _ (by omega)];exact Int.tmod_nonneg _ (by omega)
theorem kM{code:List Int}(h:Bytes code)(d:DS){n:Int}(hn:1<=n):(pk code d n).1<n:=by
 have h1:=vR h d;have h2:=vR h (nx code d).2;unfold pk;cases hd:decide (n<=1)<;>cases decide (200<n)<;>simp only[qG,qH]
 .exact Int.tmod_lt_of_pos _ (by omega)
 .exact Int.tmod_lt_of_pos _ (by omega)
 .omega
 .omega
theorem xC{i:Nat}(h:i<=1000000000):IntKind.i64.wrap (((i+1:Nat):Int)-1)=((i:Nat):Int):=by rw[qO _ (by omega)];omega
abbrev ig:U:=.int .u8
end Go.Tr
namespace Go.Proofs.YtpdipfohnpopmaaDoor
open Go Go.RowKit Go.Proofs Go.Tr
abbrev gY(code:List Int)(d:DS):List Tok:=[.dn 10000 47 [.rsl ig code,.int .i64 (d.k:Nat),.int .u64 d.s]]
section
variable (code:List Int)(d:DS)
theorem yD:bD Tryd.prog 15 [.rsl ig code] [] (.ptr 10000 0) (gY code ⟨0,0⟩):=by
 refine bD.intro (nt:=6) aZ mixed (by kernel_rfl) Tryd.func15 rfl rfl rfl rfl rfl rfl ?_;refine fin [(10000,5)] (aI rfl ?_);exact⟨trivial,⟨rfl,⟨rfl,rfl⟩,⟨rfl,rfl⟩,trivial⟩,trivial⟩
set_option maxRecDepth 100000 in
theorem yZ(hb:Bytes code)(hk:d.k<=100000000):bD Tryd.prog 32 [.ptr 10000 0] (gY code d) (.int .i64 (nx code d).1) (gY code (nx code d).2):=by
 refine bD.intro (nt:=62) aZ mixed (by kernel_rfl) Tryd.func32 rfl rfl rfl rfl rfl rfl ?_;have hs:=Ed (k:=d.k) (by omega);have e2:∀b,gL code d.k=b->(nx code d)=(bif decide (((d.k+1:Nat):Int)<=(code.length:Nat))then b else tF (mO d.s b),⟨d.k+1,mO d.s b⟩):=fun b e=>by subst e;rfl
 refine aI (by kernel_rfl) ?_;refine aI (fun q1=> ?_) (fun q1=> ?_)
 .have hb1:gL code d.k=IntKind.i64.wrap (elt 0 code (d.k:Nat)):=by unfold gL;rw[show decide ((d.k:Int)<(code.length:Nat))=true from q1];rfl
  rw[e2 _ hb1];refine aI (show 0<=((d.k:Nat):Int)/\((d.k:Nat):Int)<(code.length:Nat) from⟨by omega,of_decide_eq_true q1⟩) ?_;refine aI (by kernel_rfl) ?_;refine aI (by kernel_rfl) ?_;refine aI (fun q2=> ?_) (fun q2=> ?_)
  .have q3:decide (((d.k+1:Nat):Int)<=(code.length:Nat))=true:=by rw[<-hs];exact q2
   rw[q3];refine fin [] (aI ⟨rfl,rfl⟩ ?_);exact⟨trivial,⟨rfl,⟨hs,rfl⟩,⟨rfl,rfl⟩,trivial⟩,trivial⟩
  .have q3:decide (((d.k+1:Nat):Int)<=(code.length:Nat))=false:=by rw[<-hs];exact q2
   rw[q3];refine aI (by decide) ?_;refine fin [] (aI ⟨rfl,rfl⟩ ?_);exact⟨trivial,⟨rfl,⟨hs,rfl⟩,⟨rfl,rfl⟩,trivial⟩,trivial⟩
 .have hb1:gL code d.k=0:=by unfold gL;rw[show decide ((d.k:Int)<(code.length:Nat))=false from q1];rfl
  rw[e2 _ hb1];refine aI (by kernel_rfl) ?_;refine aI (fun q2=> ?_) (fun q2=> ?_)
  .have q3:decide (((d.k+1:Nat):Int)<=(code.length:Nat))=true:=by rw[<-hs];exact q2
   rw[q3];refine fin [] (aI ⟨rfl,rfl⟩ ?_);exact⟨trivial,⟨rfl,⟨hs,rfl⟩,⟨rfl,rfl⟩,trivial⟩,trivial⟩
  .have q3:decide (((d.k+1:Nat):Int)<=(code.length:Nat))=false:=by rw[<-hs];exact q2
   rw[q3];refine aI (by decide) ?_;refine fin [] (aI ⟨rfl,rfl⟩ ?_);exact⟨trivial,⟨rfl,⟨hs,rfl⟩,⟨rfl,rfl⟩,trivial⟩,trivial⟩
set_option maxRecDepth 100000 in
theorem sO(hb:Bytes code)(hk:d.k<=99999999)(n:Int):bD Tryd.prog 31 [.ptr 10000 0,.int .i64 n] (gY code d) (.int .i64 (pk code d n).1) (gY code (pk code d n).2):=by
 refine bD.intro (nt:=20) aZ mixed (by kernel_rfl) Tryd.func31 rfl rfl rfl rfl rfl rfl ?_;have tk:∀d:DS,mZ [.rsl ig code,.int .i64 (d.k:Nat),.int .u64 d.s] [.rsl ig code,.int .i64 (d.k:Nat),.int .u64 d.s]:=fun d=>⟨rfl,⟨rfl,rfl⟩,⟨rfl,rfl⟩,trivial⟩
 unfold pk;refine aI (fun q1=> ?_) (fun q1=> ?_)
 .rw[show decide (n<=1)=true from q1];refine fin [] (aI ⟨rfl,rfl⟩ ?_);exact⟨trivial,tk _,trivial⟩
 have hn:n≠0:=by
  have:¬n<=1:=of_decide_eq_false q1;omega
 rw[show decide (n<=1)=false from q1];refine oY (yZ code d hb (by omega)) ?_;refine aI (fun q2=> ?_) (fun q2=> ?_)
 .rw[show decide (200<n)=true from q2];refine oY (yZ code (nx code d).2 hb (by show d.k+1<=_;omega)) ?_;refine aI hn ?_;refine fin [] (aI ⟨rfl,rfl⟩ ?_);exact⟨trivial,tk _,trivial⟩
 .rw[show decide (200<n)=false from q2];refine aI hn ?_;refine fin [] (aI ⟨rfl,rfl⟩ ?_);exact⟨trivial,tk _,trivial⟩
end
end Go.Proofs.YtpdipfohnpopmaaDoor
