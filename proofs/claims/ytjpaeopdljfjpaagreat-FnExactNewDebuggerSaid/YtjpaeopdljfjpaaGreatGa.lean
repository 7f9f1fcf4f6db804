
/- A new debugger: the reference's side. -/
import Derived.Test.YtjpaeopdljfjpaaGreatShort
import Derived.Test.YtjpaeopdljfjpaaGreatWb
import Derived.Test.YtjpaeopdljfjpaaGreatRd
import Derived.Test.YtjpaeopdljfjpaaGreatUf
set_option linter.unusedSimpArgs false
set_option linter.unusedVariables false
namespace Go.Tr
open Go Go.RowKit
abbrev bT:U:=.pair (.int .i64) (.pair (.int .i64) (.int .i64))
abbrev uM:U:=.pair (.int .i64) (.int .i64)
abbrev qg:U:=.pair (.int .i64) (.pair fG (.sl bT))
abbrev RU:U:=.pair (.sl fG) (.pair (.sl (.int .i64)) (.pair (.int .i64) (.pair (.int .i64) (.pair fG (.pair (.sl bT) (.pair (.sl uM) (.sl qg)))))))
def dx(n:Nat):List (El bT):=(List.range n).map fun i:Nat=>((0:Int),(-1:Int),(i:Int))
theorem kP(n:Nat):(dx n).length=n:=by simp[dx]
theorem xW(n:Nat):dx (n+1)=dx n++[((0:Int),(-1:Int),(n:Int))]:=by simp[dx,List.range_succ]
theorem Ad{u:U}{xs:List (El u)}{i:Nat}(h:i<xs.length):xs.take i++[elt (dflt u) xs ((i:Nat):Int)]=xs.take (i+1):=by
 rw[List.take_add_one,qB h];unfold elt;rw[qK,qC,qB h];rfl
end Go.Tr
namespace Go.Proofs.YtjpaeopdljfjpaaGreat
open Go Go.RowKit Go.Proofs Go.Tr
set_option maxRecDepth 100000 in
theorem Pf(k:Int)(xs:List ah)(os:List (El bT))(h:fO xs)(ho:os.length≤1048576):bg Tryz.prog 52 [.rp qg (k,xs,os)] [] (.agg [.int .i64 k,.sl 10000,.sl 10001]) [.row 10000 86 5 bf xs [],.row 10001 57 3 bT os []]:=by
 refine bg.intro (nt:=18) fJ mixed (by kernel_rfl) Tryz.func52 rfl rfl rfl rfl rfl rfl ?_;refine Or.inr (eI _ (eI _ (aI (CV xs h) ?_)));refine aI (by show 0+os.length≤_;omega) ?_;refine aI (by kernel_rfl) ?_;refine fin [(10000,10),(10001,16)] (aI rfl ?_);exact⟨⟨rfl,nP⟩,⟨rfl,nP⟩,trivial⟩
theorem Ih:fD Tryz.prog 23=true:=by kernel_rfl
abbrev Fq:List SV:=[.raw (.slice none 0 0),.raw (.slice none 0 0),.int .i64 0,.int .i64 0,.raw (.slice none 0 0),.raw (.slice none 0 0),.raw (.slice none 0 0),.raw (.slice none 0 0)]
set_option maxHeartbeats 4000000 in
set_option maxRecDepth 100000 in
theorem O1(bk:List (El fG))(sch:List Int)(ev k:Int)(xs:List ah)(os:List (El bT))(bs:List (El uM))(ps:List (El qg))(hb:bk.length≤1048576)(hbk:∀i:Nat,i<bk.length→fO (elt (dflt fG) bk (i:Nat)))
  (hs:sch.length≤1048576) (h:fO xs) (ho:os.length≤1048576) (hbs:bs.length≤1048576) (hp:ps.length≤1048576) (hps:∀i:Nat,i<ps.length→fO (elt (dflt qg) ps (i:Nat)).2.1∧(elt (dflt qg) ps (i:Nat)).2.2.length≤1048576):
  bg Tryz.prog 23 [.rp RU (bk,sch,ev,k,xs,os,bs,ps)] [] (.agg [.sl 10000,.sl 10001,.int .i64 ev,.int .i64 k,.sl 10002,.sl 10003,.sl 10004,.sl 10005])
   [.row 10000 32 1 fG bk [],.row 10001 2 1 (.int .i64) sch [],.row 10002 86 5 bf xs [],.row 10003 57 3 bT os [],.row 10004 104 2 uM bs [],.row 10005 59 3 qg ps []]:=by
 refine bg.intro (nt:=79) fJ mixed Ih Tryz.func23 rfl rfl rfl rfl rfl rfl ?_;refine Or.inr (eI _ (eI _ (aI (Qq sch hs) ?_)));refine Or.inr (eI _ (eI _ (aI (CV xs h) ?_)));refine aI (by show 0+os.length≤_;omega) ?_;refine aI (by show 0+bs.length≤_;omega) ?_;refine aI (by kernel_rfl) ?_
 refine lp Nat (fun i=>[(4,.int .i64 (i:Nat))]) (fun i=>[.iG 2 37 Fq,.iG 3 37 [.sl 20000,.sl 10,.int .i64 ev,.int .i64 k,.sl 22,.sl 28,.sl 34,.raw (.slice none 0 0)],
  .row 10 2 1 (.int .i64) sch [],.row 22 86 5 bf xs [],.row 28 57 3 bT os [],.row 34 104 2 uM bs [],.row 20000 32 1 fG (bk.take i) []]) (fun i=>bk.length-i) (fun i=>i≤bk.length) 0 (Nat.zero_le _) ?_ ?_
 ·exact Qk [⟨1000003,30000,32,1,fG⟩] [(20000,30000)] rfl (aI (aI ⟨rfl,rfl⟩ trivial) ⟨trivial,⟨rfl,rfl,⟨rfl,rfl⟩,⟨rfl,rfl⟩,rfl,rfl,rfl,rfl,trivial⟩,trivial,⟨rfl,rfl,⟨rfl,rfl⟩,⟨rfl,rfl⟩,rfl,rfl,rfl,rfl,trivial⟩,
   ⟨rfl,nP⟩,⟨rfl,nP⟩,⟨rfl,nP⟩,⟨rfl,nP⟩,⟨rfl,nP⟩,trivial⟩)
 intro i hi;refine aI (fun q1=> ?_) (fun q1=> ?_)
 ·have hlt:i<bk.length:=by have:((i:Nat):Int)<(bk.length:Nat):=of_decide_eq_true q1;omega
  refine aI (show(0:Int)≤(i:Nat)∧((i:Nat):Int)<(bk.length:Nat) by omega) ?_;refine Or.inr (eI _ (eI _ (aI (CV (elt (dflt fG) bk (i:Nat)) (hbk i hlt)) ?_)));refine aI (by show(bk.take i).length+1≤_;rw[List.length_take];omega) ?_;refine aI (by kernel_rfl) ?_;refine lX (i+1) hlt ?_ (by show bk.length-(i+1)<bk.length-i;omega)
  refine hd [(20000,55)] rfl (aI ⟨wB (by omega),rfl⟩ trivial) ⟨trivial,⟨rfl,rfl,⟨rfl,rfl⟩,⟨rfl,rfl⟩,rfl,rfl,rfl,rfl,trivial⟩,trivial,⟨rfl,rfl,⟨rfl,rfl⟩,⟨rfl,rfl⟩,rfl,rfl,rfl,rfl,trivial⟩,
   ⟨rfl,nP⟩,⟨rfl,nP⟩,⟨rfl,nP⟩,⟨rfl,nP⟩,⟨Ad hlt,nP⟩,trivial⟩
 have hge:bk.length≤i:=by have:¬((i:Nat):Int)<(bk.length:Nat):=of_decide_eq_false q1;omega
 have e1:bk.take i=bk:=qN hge
 refine lp Nat (fun i=>[(5,.int .i64 (i:Nat))]) (fun j=>[.iG 2 37 Fq,.iG 3 37 [.sl 20000,.sl 10,.int .i64 ev,.int .i64 k,.sl 22,.sl 28,.sl 34,.sl 20001],
  .row 10 2 1 (.int .i64) sch [],.row 22 86 5 bf xs [],.row 28 57 3 bT os [],.row 34 104 2 uM bs [],.row 20000 32 1 fG bk [],.row 20001 59 3 qg (ps.take j) []]) (fun j=>ps.length-j) (fun j=>j≤ps.length) 0 (Nat.zero_le _) ?_ ?_
 ·exact Qk [⟨8000003,30000,59,3,qg⟩] [(20001,30000)] rfl (aI (aI ⟨rfl,rfl⟩ trivial) ⟨trivial,⟨rfl,rfl,⟨rfl,rfl⟩,⟨rfl,rfl⟩,rfl,rfl,rfl,rfl,trivial⟩,trivial,⟨rfl,rfl,⟨rfl,rfl⟩,⟨rfl,rfl⟩,rfl,rfl,rfl,rfl,trivial⟩,
   ⟨rfl,nP⟩,⟨rfl,nP⟩,⟨rfl,nP⟩,⟨rfl,nP⟩,⟨e1,nP⟩,⟨rfl,nP⟩,trivial⟩)
 intro j hj;refine aI (fun q2=> ?_) (fun q2=> ?_)
 ·have hlt:j<ps.length:=by have:((j:Nat):Int)<(ps.length:Nat):=of_decide_eq_true q2;omega
  obtain⟨s1,s2⟩:=hps j hlt;refine aI (show(0:Int)≤(j:Nat)∧((j:Nat):Int)<(ps.length:Nat) by omega) ?_;refine Or.inr (eI _ (eI _ (aI (Pf (elt (dflt qg) ps (j:Nat)).1 (elt (dflt qg) ps (j:Nat)).2.1 (elt (dflt qg) ps (j:Nat)).2.2 s1 s2) ?_)));refine aI (by show(ps.take j).length+1≤_;rw[List.length_take];omega) ?_;refine aI (by kernel_rfl) ?_;refine lX (j+1) hlt ?_ (by show ps.length-(j+1)<ps.length-j;omega)
  refine hd [(20001,76)] rfl (aI ⟨wB (by omega),rfl⟩ trivial) ⟨trivial,⟨rfl,rfl,⟨rfl,rfl⟩,⟨rfl,rfl⟩,rfl,rfl,rfl,rfl,trivial⟩,trivial,⟨rfl,rfl,⟨rfl,rfl⟩,⟨rfl,rfl⟩,rfl,rfl,rfl,rfl,trivial⟩,
   ⟨rfl,nP⟩,⟨rfl,nP⟩,⟨rfl,nP⟩,⟨rfl,nP⟩,⟨rfl,nP⟩,⟨Ad hlt,nP⟩,trivial⟩
 have hge2:ps.length≤j:=by have:¬((j:Nat):Int)<(ps.length:Nat):=of_decide_eq_false q2;omega
 refine fin [(10000,20000),(10001,10),(10002,22),(10003,28),(10004,34),(10005,20001)] (aI rfl ?_);exact⟨⟨rfl,nP⟩,⟨rfl,nP⟩,⟨rfl,nP⟩,⟨rfl,nP⟩,⟨rfl,nP⟩,⟨qN hge2,nP⟩,trivial⟩
end Go.Proofs.YtjpaeopdljfjpaaGreat
