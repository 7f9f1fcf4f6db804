
/- Drawn agents. Printed by gen_ba.py. -/
import Derived.Test.YtdpclbjjmhkgiaaShort
import Derived.Test.YtdpclbjjmhkgiaaLc
import Derived.Test.YtdpclbjjmhkgiaaJa
import Derived.Test.YtdpclbjjmhkgiaaIb
import Derived.Test.YtdpclbjjmhkgiaaNw
set_option linter.unusedSimpArgs false
set_option linter.unusedVariables false
namespace Go.Tr
open Go Go.RowKit
structure Sz(k lv:Int)(a:ah):Prop where
 kind:a.1=k
 lev:a.2.1=bif aG k then lv else 0
 cont:fG (gA a)=true
 dat:a.2.2.2.1.length≤4
 prt:∃n:Nat,1≤n∧n≤4∧a.2.2.2.2=List.replicate n (0,0)∧(n:Int)=aL k (dH k n)
theorem Sz.agent{k lv:Int}{a:ah}(h:Sz k lv a)(hk:kV k=true)(hl:Ez lv=true):eO (gA a)=true:=by
 obtain⟨n,h1,h2,h3,h4⟩:=h.prt;unfold eO;have e1:(gA a).kind=k:=h.kind;have e2:(gA a).aH.length=n:=by show(a.2.2.2.2.map _).length=n;rw[List.length_map,h3,List.length_replicate]
 have e3:fieldsOf (gA a)=dH k n:=by unfold fieldsOf;rw[e1,e2]
 have e4:(gA a).level=bif aG k then lv else 0:=h.lev
 rw[e3,e1,e2,h.cont,←h4,e4]
 have e5:fF k (bif aG k then lv else 0)=true:=by
  unfold fF;rw[hk];cases aG k with
  |true=>simp[hl]
  |false=>simp
 rw[e5];simp;omega
end Go.Tr
namespace Go.Proofs.Ytdpclbjjmhkgiaa
open Go Go.RowKit Go.Proofs Go.Tr
theorem E5(k f:Int):bg Try.prog 56 [.int .i64 k,.int .i64 f] (.int .i64 (aL k f)):=by
 refine bg.intro (nt:=28) aS mixed (by kernel_rfl) Try.func56 rfl rfl rfl rfl rfl ?_;refine aI (fun q=> ?_) (fun q=> ?_)
 ·have q:k=9:=by have q:(k==9)=true:=q;simpa using q
  refine Or.inl (eI _ (aI (Ew f 0 3) ?_));refine aI (fun q2=> ?_) (fun q2=> ?_)
  ·have q2:iy f 0 3=true:=q2;have:=jl q2;refine aI (Eq.trans (IntWalk.i64_in _ (by omega)) ?_) rfl;simp only[aL,q,q2,if_true];omega
  ·have q2:iy f 0 3=false:=q2;refine aI (Eq.trans (Eq.refl _) ?_) rfl;simp[aL,q,q2]
 have q:¬k=9:=by have q:(k==9)=false:=q;simpa using q
 refine aI (fun q2=> ?_) (fun q2=> ?_)
 ·refine aI (Eq.trans (Eq.refl _) ?_) rfl;have q2:¬f=0:=by have q2:(f !=0)=true:=q2;simpa using q2
  simp[aL,q,q2]
 have q2:f=0:=by have q2:(f !=0)=false:=q2;simpa using q2
 repeat' (refine aI ?_ ?_<;>intro _)
 all_goals (refine aI (Eq.trans (Eq.refl _) ?_) rfl)
 all_goals (simp_all [aL])
end Go.Proofs.Ytdpclbjjmhkgiaa
