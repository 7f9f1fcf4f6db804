
/- Kinds, levels and classes of agents, on both sides, by the symbolic machine. -/
import Derived.Test.YtdpclbjjmhkgiaaShort
import Derived.Test.YtdpclbjjmhkgiaaProg
import Derived.Test.YtdpclbjjmhkgiaaVti
import Derived.Test.YtdpclbjjmhkgiaaVV
import Derived.Test.YtdpclbjjmhkgiaaValid
import Derived.Test.YtdpclbjjmhkgiaaNw
set_option linter.unusedSimpArgs false
set_option linter.unusedVariables false
namespace Go.Proofs.Ytdpclbjjmhkgiaa
open Go Go.RowKit Go.Proofs Go.Tr
theorem aY(a b:Bool):(bif a then b else false)=(a&&b):=by cases a<;>rfl
theorem gG(a b:Bool):(bif a then true else b)=(a||b):=by cases a<;>rfl
theorem Ew(n lo hi:Int):bg Try.prog 51 [.int .i64 n,.int .i64 lo,.int .i64 hi] (.bool (iy n lo hi)):=by
 refine bg.intro (nt:=15) aS mixed (by kernel_rfl) Try.func51 rfl rfl rfl rfl rfl ?_;exact aY _ _
theorem Tc(n:Int):bg Try.prog 81 [.int .i64 n] (.bool (kV n)):=by
 refine bg.intro (nt:=9) aS mixed (by kernel_rfl) Try.func81 rfl rfl rfl rfl rfl ?_;exact aY _ _
theorem Vo(n:Int):bg Try.prog 94 [.int .i64 n] (.bool (Ez n)):=by
 refine bg.intro (nt:=9) aS mixed (by kernel_rfl) Try.func94 rfl rfl rfl rfl rfl ?_;exact aY _ _
theorem eT(k:Int):bg Try.prog 60 [.int .i64 k] (.bool (aG k)):=by
 refine bg.intro (nt:=17) aS mixed (by kernel_rfl) Try.func60 rfl rfl rfl rfl rfl ?_;refine Or.inl (eI _ (aI (Tc k) ?_));refine Eq.trans (Eq.refl _) ?_;simp only[aY,aG]
theorem mH(k:Int):bg Try.prog 55 [.int .i64 k] (.bool (aG k)):=by
 refine bg.intro (nt:=14) aS mixed (by kernel_rfl) Try.func55 rfl rfl rfl rfl rfl ?_
 repeat' (refine aI (fun _=> ?_) (fun _=> ?_))
 all_goals (refine Eq.trans (Eq.refl _) ?_)
 all_goals (simp_all [aG,kV,iy])
 all_goals omega
theorem Ug(k l:Int):bg Try.prog 89 [.int .i64 k,.int .i64 l] (.bool (fF k l)):=by
 refine bg.intro (nt:=19) aS mixed (by kernel_rfl) Try.func89 rfl rfl rfl rfl rfl ?_;refine Or.inl (eI _ (aI (Tc k) ?_));refine Or.inl (eI _ (aI (fun _=>eT k) ?_));refine Or.inl (eI _ (aI (fun _=>Vo l) ?_));refine Eq.trans (Eq.refl _) ?_;simp only[aY,gG,fF]
theorem WY(k:Int):bg Try.prog 86 [.int .i64 k] (.bool (kV k)):=by
 refine bg.intro (nt:=5) aS mixed (by kernel_rfl) Try.func86 rfl rfl rfl rfl rfl ?_;refine Or.inl (eI _ (aI (Ew k 1 12) ?_));exact rfl
theorem Uh(k l:Int):bg Try.prog 78 [.int .i64 k,.int .i64 l] (.bool (fF k l)):=by
 refine bg.intro (nt:=15) aS mixed (by kernel_rfl) Try.func78 rfl rfl rfl rfl rfl ?_;refine Or.inl (eI _ (aI (mH k) ?_));refine aI (fun q=> ?_) (fun q=> ?_)
 ·refine Or.inl (eI _ (aI (Ew l 0 8) ?_));refine Eq.trans (Eq.refl _) ?_;have q:aG k=true:=q;have hk:kV k=true:=by cases h:kV k with|true=>rfl|false=>rw[yt h]at q;cases q
  simp only[fF,q,hk,Bool.true_and,Ez]
  by_cases h0:l=0
  ·subst h0;rfl
  ·simp[h0]
 ·refine Or.inl (eI _ (aI (WY k) ?_));refine Eq.trans (Eq.refl _) ?_;have q:aG k=false:=q;simp only[aY,fF,q,Bool.false_and,Bool.or_false]
theorem Po:bY Try.prog 70=true:=by kernel_rfl
set_option maxRecDepth 100000 in
theorem Xl(xs:List ah)(p:aB)(hp:aj xs p):bg Try.prog 70 [.rp kX xs,vP p] (vP (aD xs p)):=by
 obtain⟨p1,p2,p3,p4⟩:=hp;refine bg.intro (nt:=18) aS mixed Po Try.func70 rfl rfl rfl rfl rfl ?_;refine aI ⟨p1,p2⟩ ?_;refine aI ⟨p3,p4⟩ ?_;refine aI (by kernel_rfl) ?_;exact rfl
end Go.Proofs.Ytdpclbjjmhkgiaa
