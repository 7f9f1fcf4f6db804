
/- Draws out of bytes: the source of the laws. -/
import Derived.Test.YtbakpddomlgjbaaWb
import Derived.Test.YtbakpddomlgjbaaVti
set_option linter.unusedSimpArgs false
set_option linter.unusedVariables false
namespace Go.Tr
open Go Go.RowKit
structure DS where
 k:Nat
 s:Int
def vQ(s b:Int):Int:=IntKind.u64.wrap (IntKind.u64.wrap (IntKind.u64.wrap (s*6364136223846793005)+IntKind.u64.wrap b)+1442695040888963407)
def lW(code:List Int)(k:Nat):Int:=bif decide ((k:Int)<(code.length:Nat))then IntKind.i64.wrap (elt 0 code (k:Nat))else 0
def Bd(s:Int):Int:=IntKind.i64.wrap (bits .and .u64 (s.fdiv (2 ^ (min (40:Int).toNat IntKind.u64.bits))) 255)
def nx(code:List Int)(d:DS):Int×DS:=
 (bif decide (((d.k+1:Nat):Int)<=(code.length:Nat))then lW code d.k else Bd (vQ d.s (lW code d.k)),⟨d.k+1,vQ d.s (lW code d.k)⟩)
def pk(code:List Int)(d:DS)(n:Int):Int×DS:=
 bif decide (n<=1)then(0,d)else bif decide (200<n)then
  ((IntKind.i64.wrap (IntKind.i64.wrap ((nx code d).1*256)+(nx code (nx code d).2).1)).tmod n,(nx code (nx code d).2).2)else((nx code d).1.tmod n,(nx code d).2)
def Bytes(code:List Int):Prop:=code.length<=1048576/\∀x∈code,0<=x/\x<=255
theorem Fz{code:List Int}(h:Bytes code)(k:Nat):0<=lW code k/\lW code k<=255:=by
 unfold lW;cases hd:decide ((k:Int)<(code.length:Nat))with
 |false=>simp
 |true=>
  have hk:k<code.length:=by simpa using hd
  have hm:elt 0 code (k:Nat)∈code:=by
   unfold elt;rw[show(((k:Nat):Int)).toNat=k by omega,qC,qB hk];exact List.getElem_mem hk
  have:=h.2 _ hm;simp only[qG];rw[qO _ (by omega)];exact this
theorem Im(s b:Int):0<=Bd (vQ s b)/\Bd (vQ s b)<=255:=by
 have h:∀y:Int,0<=IntKind.u64.wrap y/\IntKind.u64.wrap y<18446744073709551616:=fun y=>by
  have:IntKind.u64.wrap y=y % 18446744073709551616:=by simp[IntKind.wrap,IntKind.signed,IntKind.bits]
  rw[this];omega
 unfold Bd vQ;have h1:=h (IntKind.u64.wrap (IntKind.u64.wrap (s*6364136223846793005)+IntKind.u64.wrap b)+1442695040888963407);generalize IntKind.u64.wrap (IntKind.u64.wrap (IntKind.u64.wrap (s*6364136223846793005)+IntKind.u64.wrap b)+1442695040888963407)=z at*
 have e:z.fdiv (2 ^ (min (40:Int).toNat IntKind.u64.bits))=z/1099511627776:=by
  have:((2:Int) ^ (min (40:Int).toNat IntKind.u64.bits))=1099511627776:=by decide
  rw[this,Int.fdiv_eq_ediv_of_nonneg _ (by decide)]
 rw[e,u64_and _ _ (by omega) (by omega) (by omega) (by omega)];have h2:(z/1099511627776).toNat&&& (255:Int).toNat<=255:=Nat.and_le_right;generalize (z/1099511627776).toNat&&& (255:Int).toNat=q at*;rw[qO _ (by omega)];omega
theorem DI{code:List Int}(h:Bytes code)(d:DS):0<=(nx code d).1/\(nx code d).1<=255:=by
 unfold nx;simp only;cases decide (((d.k+1:Nat):Int)<=(code.length:Nat))with
 |true=>exact Fz h _
 |false=>exact Im _ _
theorem kS(code:List Int)(d:DS)(n:Int):d.k<=(pk code d n).2.k/\(pk code d n).2.k<=d.k+2:=by
 unfold pk;cases decide (n<=1)<;>cases decide (200<n)<;>simp[nx]<;>omega
theorem pW{code:List Int}(h:Bytes code)(d:DS)(n:Int):0<=(pk code d n).1:=by
 have h1:=DI h d;have h2:=DI h (nx code d).2;unfold pk;cases decide (n<=1)<;>cases decide (200<n)<;>simp only[qG,qH]<;>first|exact Int.le_refl _|skip
 .exact Int.tmod_nonneg _ h1.1
 .rw[qO ((nx code d).1*256) (by omega),qO _ (by omega)];exact Int.tmod_nonneg _ (by omega)
theorem jI{code:List Int}(h:Bytes code)(d:DS){n:Int}(hn:1<=n):(pk code d n).1<n:=by
 have h1:=DI h d;have h2:=DI h (nx code d).2;unfold pk;cases hd:decide (n<=1)<;>cases decide (200<n)<;>simp only[qG,qH]
 .exact Int.tmod_lt_of_pos _ (by omega)
 .exact Int.tmod_lt_of_pos _ (by omega)
 .omega
 .omega
abbrev iK:U:=.int .u8
end Go.Tr
namespace Go.Proofs.Ytbakpddomlgjbaa
open Go Go.RowKit Go.Proofs Go.Tr
abbrev iX(code:List Int)(d:DS):List Tok:=[.bQ 10000 79 [.rsl iK code,.int .i64 (d.k:Nat),.int .u64 d.s]]
section
variable (code:List Int)(d:DS)
theorem Ga:au Try.prog 23 [.rsl iK code] [] (.ptr 10000 0) (iX code ⟨0,0⟩):=by
 refine au.intro (nt:=6) aC mixed (by kernel_rfl) Try.func23 rfl rfl rfl rfl rfl rfl ?_;refine fin [(10000,5)] (aI rfl ?_);exact⟨trivial,⟨rfl,⟨rfl,rfl⟩,⟨rfl,rfl⟩,trivial⟩,trivial⟩
set_option maxRecDepth 100000 in
theorem KQ(hb:Bytes code)(hk:d.k<=100000000):au Try.prog 65 [.ptr 10000 0] (iX code d) (.int .i64 (nx code d).1) (iX code (nx code d).2):=by
 refine au.intro (nt:=62) aC mixed (by kernel_rfl) Try.func65 rfl rfl rfl rfl rfl rfl ?_;have hs:=Qg (k:=d.k) (by omega);have e2:∀b,lW code d.k=b->(nx code d)=(bif decide (((d.k+1:Nat):Int)<=(code.length:Nat))then b else Bd (vQ d.s b),⟨d.k+1,vQ d.s b⟩):=fun b e=>by subst e;rfl
 refine aI (by kernel_rfl) ?_;refine aI (fun q1=> ?_) (fun q1=> ?_)
 .have hb1:lW code d.k=IntKind.i64.wrap (elt 0 code (d.k:Nat)):=by unfold lW;rw[show decide ((d.k:Int)<(code.length:Nat))=true from q1];rfl
  rw[e2 _ hb1];refine aI (show 0<=((d.k:Nat):Int)/\((d.k:Nat):Int)<(code.length:Nat) from⟨by omega,of_decide_eq_true q1⟩) ?_;refine aI (by kernel_rfl) ?_;refine aI (by kernel_rfl) ?_;refine aI (fun q2=> ?_) (fun q2=> ?_)
  .have q3:decide (((d.k+1:Nat):Int)<=(code.length:Nat))=true:=by rw[<-hs];exact q2
   rw[q3];refine fin [] (aI ⟨rfl,rfl⟩ ?_);exact⟨trivial,⟨rfl,⟨hs,rfl⟩,⟨rfl,rfl⟩,trivial⟩,trivial⟩
  .have q3:decide (((d.k+1:Nat):Int)<=(code.length:Nat))=false:=by rw[<-hs];exact q2
   rw[q3];refine aI (by decide) ?_;refine fin [] (aI ⟨rfl,rfl⟩ ?_);exact⟨trivial,⟨rfl,⟨hs,rfl⟩,⟨rfl,rfl⟩,trivial⟩,trivial⟩
 .have hb1:lW code d.k=0:=by unfold lW;rw[show decide ((d.k:Int)<(code.length:Nat))=false from q1];rfl
  rw[e2 _ hb1];refine aI (by kernel_rfl) ?_;refine aI (fun q2=> ?_) (fun q2=> ?_)
  .have q3:decide (((d.k+1:Nat):Int)<=(code.length:Nat))=true:=by rw[<-hs];exact q2
   rw[q3];refine fin [] (aI ⟨rfl,rfl⟩ ?_);exact⟨trivial,⟨rfl,⟨hs,rfl⟩,⟨rfl,rfl⟩,trivial⟩,trivial⟩
  .have q3:decide (((d.k+1:Nat):Int)<=(code.length:Nat))=false:=by rw[<-hs];exact q2
   rw[q3];refine aI (by decide) ?_;refine fin [] (aI ⟨rfl,rfl⟩ ?_);exact⟨trivial,⟨rfl,⟨hs,rfl⟩,⟨rfl,rfl⟩,trivial⟩,trivial⟩
set_option maxRecDepth 100000 in
theorem fB(hb:Bytes code)(hk:d.k<=99999999)(n:Int):au Try.prog 39 [.ptr 10000 0,.int .i64 n] (iX code d) (.int .i64 (pk code d n).1) (iX code (pk code d n).2):=by
 refine au.intro (nt:=20) aC mixed (by kernel_rfl) Try.func39 rfl rfl rfl rfl rfl rfl ?_;have tk:∀d:DS,tC [.rsl iK code,.int .i64 (d.k:Nat),.int .u64 d.s] [.rsl iK code,.int .i64 (d.k:Nat),.int .u64 d.s]:=fun d=>⟨rfl,⟨rfl,rfl⟩,⟨rfl,rfl⟩,trivial⟩
 unfold pk;refine aI (fun q1=> ?_) (fun q1=> ?_)
 .rw[show decide (n<=1)=true from q1];refine fin [] (aI ⟨rfl,rfl⟩ ?_);exact⟨trivial,tk _,trivial⟩
 have hn:n≠0:=by
  have:¬n<=1:=of_decide_eq_false q1;omega
 rw[show decide (n<=1)=false from q1];refine oY (KQ code d hb (by omega)) ?_;refine aI (fun q2=> ?_) (fun q2=> ?_)
 .rw[show decide (200<n)=true from q2];refine oY (KQ code (nx code d).2 hb (by show d.k+1<=_;omega)) ?_;refine aI hn ?_;refine fin [] (aI ⟨rfl,rfl⟩ ?_);exact⟨trivial,tk _,trivial⟩
 .rw[show decide (200<n)=false from q2];refine aI hn ?_;refine fin [] (aI ⟨rfl,rfl⟩ ?_);exact⟨trivial,tk _,trivial⟩
end
theorem Lv(code:List Int):aB Try.prog 5 [.rsl iK code] (.bool (decide (4096<(code.length:Int)))):=by
 refine aB.intro (nt:=6) aC mixed (by kernel_rfl) Try.func5 rfl rfl rfl rfl rfl ?_;exact rfl
theorem GA(code:List Int)(hb:Bytes code)(n:Int):aB Try.prog 15 [.rsl iK code,.int .i64 n] (.int .i64 (pk code ⟨0,0⟩ n).1):=by
 refine aB.intro (nt:=9) aC mixed (by kernel_rfl) Try.func15 rfl rfl rfl rfl rfl ?_;refine oY (Ga code) ?_;refine oY (fB code ⟨0,0⟩ hb (by decide) n) ?_;exact⟨rfl,rfl⟩
end Go.Proofs.Ytbakpddomlgjbaa
