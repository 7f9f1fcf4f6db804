
/- Kinds, levels and classes of agents, on both sides, by the symbolic machine. -/
import Derived.Test.YtnamelcmcikeoaaShort
import Derived.Test.YtnamelcmcikeoaaProg
import Derived.Test.YtnamelcmcikeoaaVti
import Derived.Test.YtnamelcmcikeoaaVV
import Derived.Test.YtnamelcmcikeoaaValid
import Derived.Test.YtnamelcmcikeoaaNw
set_option maxRecDepth 100000
set_option linter.unusedSimpArgs false
set_option linter.unusedVariables false
namespace Go.Proofs.Ytnamelcmcikeoaa
open Go Go.RowKit Go.Proofs Go.Tr
theorem jo(a b:Bool):(bif a then b else false)=(a&&b):=by cases a<;>rfl
theorem D5(a b:Bool):(bif a then true else b)=(a||b):=by cases a<;>rfl
theorem Mw(n lo hi:Int):aP Try.prog 46 [.int .i64 n,.int .i64 lo,.int .i64 hi] (.bool (fK n lo hi)):=by
 refine aP.intro (nt:=15) aS mixed (by kernel_rfl) Try.func46 rfl rfl rfl rfl rfl ?_;exact jo _ _
theorem NZ(n:Int):aP Try.prog 66 [.int .i64 n] (.bool (dz n)):=by
 refine aP.intro (nt:=9) aS mixed (by kernel_rfl) Try.func66 rfl rfl rfl rfl rfl ?_;exact jo _ _
theorem Pb(n:Int):aP Try.prog 68 [.int .i64 n] (.bool (uJ n)):=by
 refine aP.intro (nt:=9) aS mixed (by kernel_rfl) Try.func68 rfl rfl rfl rfl rfl ?_;exact jo _ _
theorem Mv(k:Int):aP Try.prog 67 [.int .i64 k] (.bool (bn k)):=by
 refine aP.intro (nt:=17) aS mixed (by kernel_rfl) Try.func67 rfl rfl rfl rfl rfl ?_;refine Or.inl (eI _ (aI (NZ k) ?_));refine Eq.trans (Eq.refl _) ?_;simp only[jo,bn]
theorem fI(k:Int):aP Try.prog 70 [.int .i64 k] (.bool (bn k)):=by
 refine aP.intro (nt:=14) aS mixed (by kernel_rfl) Try.func70 rfl rfl rfl rfl rfl ?_
 repeat' (refine aI (fun _=> ?_) (fun _=> ?_))
 all_goals (refine Eq.trans (Eq.refl _) ?_)
 all_goals (simp_all [bn,dz,fK])
 all_goals omega
theorem OD(k l:Int):aP Try.prog 50 [.int .i64 k,.int .i64 l] (.bool (dH k l)):=by
 refine aP.intro (nt:=19) aS mixed (by kernel_rfl) Try.func50 rfl rfl rfl rfl rfl ?_;refine Or.inl (eI _ (aI (NZ k) ?_));refine Or.inl (eI _ (aI (fun _=>Mv k) ?_));refine Or.inl (eI _ (aI (fun _=>Pb l) ?_));refine Eq.trans (Eq.refl _) ?_;simp only[jo,D5,dH]
theorem KC:bS Try.prog 16=true:=by kernel_rfl
theorem Ra(xs:List ah)(p:aC)(hp:aj xs p):aP Try.prog 16 [.rp BD xs,vP p] (vP (aB xs p)):=by
 obtain⟨p1,p2,p3,p4⟩:=hp;refine aP.intro (nt:=18) aS mixed KC Try.func16 rfl rfl rfl rfl rfl ?_;refine aI ⟨p1,p2⟩ ?_;refine aI ⟨p3,p4⟩ ?_;refine aI (by kernel_rfl) ?_;exact rfl
theorem C8:bS Try.prog 56=true:=by kernel_rfl
theorem OL(xs:List (El (.int .i64)))(hx:xs.length≤1048576):aH Try.prog 56 [.rsl (.int .i64) xs] [] (.sl 10000) [.row 10000 2 1 (.int .i64) xs []]:=by
 refine aH.Q0 (fun he c=> ?_) ?_
 ·subst he;refine aH.intro (nt:=8) aS mixed C8 Try.func56 rfl rfl rfl rfl rfl rfl ?_;refine aI (fun h1=> ?_) (fun h1=>by cases h1);refine QL [⟨2,30000,2,1,.int .i64⟩] [(10000,30000)] (aI rfl ?_);exact⟨⟨rfl,nP⟩,trivial⟩
 ·refine aH.intro (nt:=8) aS mixed C8 Try.func56 rfl rfl rfl rfl rfl rfl ?_;refine aI (fun h1=>by cases h1) (fun h1=> ?_);refine aI (by show 0+xs.length≤_;omega) ?_;refine fin [(10000,7)] (aI rfl ?_);exact⟨⟨rfl,nP⟩,trivial⟩
theorem zJ:bS Try.prog 57=true:=by kernel_rfl
theorem L8(xs:List (El (aO)))(hx:xs.length≤1048576):aH Try.prog 57 [.rsl (aO) xs] [] (.sl 10000) [.row 10000 36 2 (aO) xs []]:=by
 refine aH.Q0 (fun he c=> ?_) ?_
 ·subst he;refine aH.intro (nt:=8) aS mixed zJ Try.func57 rfl rfl rfl rfl rfl rfl ?_;refine aI (fun h1=> ?_) (fun h1=>by cases h1);refine QL [⟨2,30000,36,2,aO⟩] [(10000,30000)] (aI rfl ?_);exact⟨⟨rfl,nP⟩,trivial⟩
 ·refine aH.intro (nt:=8) aS mixed zJ Try.func57 rfl rfl rfl rfl rfl rfl ?_;refine aI (fun h1=>by cases h1) (fun h1=> ?_);refine aI (by show 0+xs.length≤_;omega) ?_;refine fin [(10000,7)] (aI rfl ?_);exact⟨⟨rfl,nP⟩,trivial⟩
theorem D9(x:ah)(h1:x.data.length≤1048576)(h2:x.aQ.length≤1048576):aH Try.prog 38 [.agg [.int .i64 x.1,.int .i64 x.2.1,.int .i64 x.2.2.1,.rsl (.int .i64) x.2.2.2.1,.rsl aO x.2.2.2.2]] [] (.agg [.int .i64 x.1,.int .i64 x.2.1,.int .i64 x.2.2.1,.sl 10000,.sl 10001]) [.row 10000 2 1 (.int .i64) x.2.2.2.1 [],.row 10001 36 2 aO x.2.2.2.2 []]:=by
 refine aH.intro (nt:=12) aS mixed (by kernel_rfl) Try.func38 rfl rfl rfl rfl rfl rfl ?_;refine Or.inr (eI _ (eI _ (aI (OL _ h1) ?_)));refine Or.inr (eI _ (eI _ (aI (L8 _ h2) ?_)));refine aI (by kernel_rfl) ?_;refine fin [(10000,5),(10001,8)] (aI rfl ?_);exact⟨⟨rfl,nP⟩,⟨rfl,nP⟩,trivial⟩
theorem Jy(xs:List ah)(h:oK xs):aH Try.prog 25 [.agg [.rsl aL xs]] [] (.agg [.sl 10000]) [.row 10000 34 5 aL xs []]:=by
 obtain⟨hl,ha⟩:=h;refine aH.intro (nt:=27) aS mixed (by kernel_rfl) Try.func25 rfl rfl rfl rfl rfl rfl ?_;refine aI ⟨Int.le_refl 0,by omega,by omega⟩ ?_;refine lp Nat (fun i=>[(14,.int .i64 (i:Nat))]) (fun i=>[.aN 2 26 [.raw (.slice none 0 0)],.aN 3 26 [.sl 20000],.row 20000 34 5 aL (xs.take i) []]) (fun i=>xs.length-i) (fun i=>i≤xs.length) 0 (Nat.zero_le _) ?_ ?_
 ·exact hd [(20000,9)] rfl (aI (aI rfl rfl) trivial) ⟨trivial,⟨rfl,trivial⟩,trivial,⟨rfl,trivial⟩,⟨rfl,nP⟩,trivial⟩
 intro i hi;refine aI (fun q1=> ?_) (fun q1=> ?_)
 ·have hlt:i<xs.length:=by simpa using q1
  refine aI (by show(0:Int)≤(i:Nat)∧((i:Nat):Int)<(xs.length:Nat);omega) ?_;refine Or.inr (eI _ (eI _ (aI (D9 (ak xs i) (ha i).1 (ha i).2) ?_)));refine aI (by show(xs.take i).length+1≤_;rw[List.length_take];omega) ?_;refine aI (by kernel_rfl) ?_;refine aJ (i+1) hlt ?_ ?_
  ·refine hd [(20000,23)] rfl (aI (aI (eu (by omega)) rfl) trivial) ⟨trivial,⟨rfl,trivial⟩,trivial,⟨rfl,trivial⟩,⟨?_,nP⟩,trivial⟩;show xs.take i++[ak xs i]=xs.take (i+1);rw[List.take_add_one,List.getElem?_eq_getElem hlt];unfold ak elt;rw[Int.toNat_natCast,List.getD_eq_getElem?_getD,List.getElem?_eq_getElem hlt];rfl
  ·show xs.length-(i+1)<xs.length-i;omega
 ·have hge:xs.length≤i:=by simpa using q1
  refine fin [(10000,20000)] (aI rfl ?_);refine⟨⟨?_,nP⟩,trivial⟩;show xs.take i=xs;rw[List.take_of_length_le hge]
end Go.Proofs.Ytnamelcmcikeoaa
