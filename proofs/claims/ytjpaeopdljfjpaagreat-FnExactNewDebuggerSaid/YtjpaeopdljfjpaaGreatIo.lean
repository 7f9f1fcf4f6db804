
/- The program's nets: wires. -/
import Derived.Test.YtjpaeopdljfjpaaGreatShort
import Derived.Test.YtjpaeopdljfjpaaGreatProg
import Derived.Test.YtjpaeopdljfjpaaGreatVti
import Derived.Test.YtjpaeopdljfjpaaGreatNz
import Derived.Test.YtjpaeopdljfjpaaGreatVV
import Derived.Test.YtjpaeopdljfjpaaGreatValid
set_option linter.unusedSimpArgs false
set_option linter.unusedVariables false
set_option linter.unusedSectionVars false
namespace Go.Proofs.YtjpaeopdljfjpaaGreat
open Go Go.RowKit Go.Proofs Go.Tr
theorem Ew:fD Tryz.prog 29=true:=by kernel_rfl
theorem J6(xs:List (El (.int .i64)))(hx:xs.length≤1048576):bg Tryz.prog 29 [.rsl (.int .i64) xs] [] (.sl 10000) [.row 10000 2 1 (.int .i64) xs []]:=by
 refine bg.OT (fun he c=> ?_) ?_
 ·subst he;refine bg.intro (nt:=8) fJ mixed Ew Tryz.func29 rfl rfl rfl rfl rfl rfl ?_;refine aI (fun h1=> ?_) (fun h1=>by cases h1);refine Oz [⟨2,30000,2,1,.int .i64⟩] [(10000,30000)] (aI rfl ?_);exact⟨⟨rfl,nP⟩,trivial⟩
 ·refine bg.intro (nt:=8) fJ mixed Ew Tryz.func29 rfl rfl rfl rfl rfl rfl ?_;refine aI (fun h1=>by cases h1) (fun h1=> ?_);refine aI (by show 0+xs.length≤_;omega) ?_;refine fin [(10000,7)] (aI rfl ?_);exact⟨⟨rfl,nP⟩,trivial⟩
theorem Bv:fD Tryz.prog 82=true:=by kernel_rfl
theorem Ml(xs:List (El (iO)))(hx:xs.length≤1048576):bg Tryz.prog 82 [.rsl (iO) xs] [] (.sl 10000) [.row 10000 92 2 (iO) xs []]:=by
 refine bg.OT (fun he c=> ?_) ?_
 ·subst he;refine bg.intro (nt:=8) fJ mixed Bv Tryz.func82 rfl rfl rfl rfl rfl rfl ?_;refine aI (fun h1=> ?_) (fun h1=>by cases h1);refine Oz [⟨2,30000,92,2,iO⟩] [(10000,30000)] (aI rfl ?_);exact⟨⟨rfl,nP⟩,trivial⟩
 ·refine bg.intro (nt:=8) fJ mixed Bv Tryz.func82 rfl rfl rfl rfl rfl rfl ?_;refine aI (fun h1=>by cases h1) (fun h1=> ?_);refine aI (by show 0+xs.length≤_;omega) ?_;refine fin [(10000,7)] (aI rfl ?_);exact⟨⟨rfl,nP⟩,trivial⟩
theorem uW(a b:Bool):(bif a then b else false)=(a&&b):=by cases a<;>rfl
theorem Ol(a b:Bool):(bif a then true else b)=(a||b):=by cases a<;>rfl
theorem KJ(n lo hi:Int):bE Tryz.prog 22 [.int .i64 n,.int .i64 lo,.int .i64 hi] (.bool (cB n lo hi)):=by
 refine bE.intro (nt:=15) fJ mixed (by kernel_rfl) Tryz.func22 rfl rfl rfl rfl rfl ?_;exact uW _ _
theorem NJ(n:Int):bE Tryz.prog 99 [.int .i64 n] (.bool (jV n)):=by
 refine bE.intro (nt:=9) fJ mixed (by kernel_rfl) Tryz.func99 rfl rfl rfl rfl rfl ?_;exact uW _ _
theorem OL(n:Int):bE Tryz.prog 101 [.int .i64 n] (.bool (KQ n)):=by
 refine bE.intro (nt:=9) fJ mixed (by kernel_rfl) Tryz.func101 rfl rfl rfl rfl rfl ?_;exact uW _ _
theorem MI(k:Int):bE Tryz.prog 100 [.int .i64 k] (.bool (gQ k)):=by
 refine bE.intro (nt:=17) fJ mixed (by kernel_rfl) Tryz.func100 rfl rfl rfl rfl rfl ?_;refine Or.inl (eI _ (aI (NJ k) ?_));refine Eq.trans (Eq.refl _) ?_;simp only[uW,gQ]
theorem Oi(k l:Int):bE Tryz.prog 89 [.int .i64 k,.int .i64 l] (.bool (dK k l)):=by
 refine bE.intro (nt:=19) fJ mixed (by kernel_rfl) Tryz.func89 rfl rfl rfl rfl rfl ?_;refine Or.inl (eI _ (aI (NJ k) ?_));refine Or.inl (eI _ (aI (fun _=>MI k) ?_));refine Or.inl (eI _ (aI (fun _=>OL l) ?_));refine Eq.trans (Eq.refl _) ?_;simp only[uW,Ol,dK]
set_option maxRecDepth 100000 in
theorem FD(x:ah)(h1:x.data.length≤1048576)(h2:x.aD.length≤1048576):bg Tryz.prog 64 [.agg [.int .i64 x.1,.int .i64 x.2.1,.int .i64 x.2.2.1,.rsl (.int .i64) x.2.2.2.1,.rsl iO x.2.2.2.2]] [] (.agg [.int .i64 x.1,.int .i64 x.2.1,.int .i64 x.2.2.1,.sl 10000,.sl 10001]) [.row 10000 2 1 (.int .i64) x.2.2.2.1 [],.row 10001 92 2 iO x.2.2.2.2 []]:=by
 refine bg.intro (nt:=12) fJ mixed (by kernel_rfl) Tryz.func64 rfl rfl rfl rfl rfl rfl ?_;refine Or.inr (eI _ (eI _ (aI (J6 _ h1) ?_)));refine Or.inr (eI _ (eI _ (aI (Ml _ h2) ?_)));refine aI (by kernel_rfl) ?_;refine fin [(10000,5),(10001,8)] (aI rfl ?_);exact⟨⟨rfl,nP⟩,⟨rfl,nP⟩,trivial⟩
theorem Bu:fD Tryz.prog 30=true:=by kernel_rfl
set_option maxRecDepth 100000 in
theorem y9(xs:List ah)(h:fO xs):bg Tryz.prog 30 [.agg [.rsl bf xs]] [] (.agg [.sl 10000]) [.row 10000 86 5 bf xs []]:=by
 obtain⟨hl,ha⟩:=h;refine bg.intro (nt:=27) fJ mixed Bu Tryz.func30 rfl rfl rfl rfl rfl rfl ?_;refine aI ⟨Int.le_refl 0,by omega,by omega⟩ ?_;refine lp Nat (fun i=>[(14,.int .i64 (i:Nat))]) (fun i=>[.iG 2 32 [.raw (.slice none 0 0)],.iG 3 32 [.sl 20000],.row 20000 86 5 bf (xs.take i) []]) (fun i=>xs.length-i) (fun i=>i≤xs.length) 0 (Nat.zero_le _) ?_ ?_
 ·exact hd [(20000,9)] rfl (aI (aI rfl rfl) trivial) ⟨trivial,⟨rfl,trivial⟩,trivial,⟨rfl,trivial⟩,⟨rfl,nP⟩,trivial⟩
 intro i hi;refine aI (fun q1=> ?_) (fun q1=> ?_)
 ·have hlt:i<xs.length:=by simpa using q1
  refine aI (by show(0:Int)≤(i:Nat)∧((i:Nat):Int)<(xs.length:Nat);omega) ?_;refine Or.inr (eI _ (eI _ (aI (FD (au xs i) (ha i).1 (ha i).2) ?_)));refine aI (by show(xs.take i).length+1≤_;rw[List.length_take];omega) ?_;refine aI (by kernel_rfl) ?_;refine lX (i+1) hlt ?_ ?_
  ·refine hd [(20000,23)] rfl (aI (aI (wB (by omega)) rfl) trivial) ⟨trivial,⟨rfl,trivial⟩,trivial,⟨rfl,trivial⟩,⟨?_,nP⟩,trivial⟩;show xs.take i++[au xs i]=xs.take (i+1);rw[List.take_add_one,qB hlt];unfold au elt;rw[qK,qC,qB hlt];rfl
  ·show xs.length-(i+1)<xs.length-i;omega
 ·have hge:xs.length≤i:=by simpa using q1
  refine fin [(10000,20000)] (aI rfl ?_);refine⟨⟨?_,nP⟩,trivial⟩;show xs.take i=xs;rw[qN hge]
section
variable (xs:List ah)(us:List Value)(bk:List (List ah))(kv:List (Int×Bool))(p:Int×Int)(h1:0≤p.1∧p.1<(xs.length:Nat))(h2:0≤p.2∧p.2<(xs.length:Nat))(hb:JI bk)(hs:∀i:Nat,fO (fP bk i))
  (hx:(yH (au xs p.1) (au xs p.2)).1=7→0≤(au xs (bif (yH (au xs p.1) (au xs p.2)).2 then p.2 else p.1)).2.2.1∧0≤(au xs (bif (yH (au xs p.1) (au xs p.2)).2 then p.2 else p.1)).2.1∧(au xs (bif (yH (au xs p.1) (au xs p.2)).2 then p.2 else p.1)).2.1≤8)
include h1 h2 hb hs hx
end
end Go.Proofs.YtjpaeopdljfjpaaGreat
namespace Go.Proofs.YtjpaeopdljfjpaaGreat
open Go Go.RowKit Go.Proofs Go.Tr
section
variable (xs:List ah)(us:List Value)(bk:List (List ah))(kv:List (Int×Bool))(ev:List tV)
end
end Go.Proofs.YtjpaeopdljfjpaaGreat
namespace Go.Proofs.YtjpaeopdljfjpaaGreat
open Go Go.RowKit Go.Proofs Go.Tr
section
variable (xs:List ah)(us:List Value)(bk:List (List ah))(kv:List (Int×Bool))(ev:List tV)
variable (p:Int×Int)(h1:0≤p.1∧p.1<(xs.length:Nat))(h2:0≤p.2∧p.2<(xs.length:Nat))
include h1 h2
end
end Go.Proofs.YtjpaeopdljfjpaaGreat
namespace Go.Proofs.YtjpaeopdljfjpaaGreat
open Go Go.RowKit Go.Proofs Go.Tr
section
variable (xs:List ah)(us:List Value)(bk:List (List ah))(kv:List (Int×Bool))(ev:List tV)(e:tV)
variable (ha:Lr xs kv e.1=true)(hb:Lr xs kv e.2.1=true)(hp:0<(au xs e.1).2.2.2.2.length)
include ha hb hp
variable (h:Me xs e.1 e.2.1=true)
include h
end
end Go.Proofs.YtjpaeopdljfjpaaGreat
namespace Go.Proofs.YtjpaeopdljfjpaaGreat
open Go Go.RowKit Go.Proofs Go.Tr
end Go.Proofs.YtjpaeopdljfjpaaGreat
