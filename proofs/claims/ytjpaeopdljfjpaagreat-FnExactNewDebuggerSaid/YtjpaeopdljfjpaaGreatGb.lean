
/- A new debugger: both sides. -/
import Derived.Test.YtjpaeopdljfjpaaGreatShort
import Derived.Test.YtjpaeopdljfjpaaGreatGa
import Derived.Test.YtjpaeopdljfjpaaGreatIo
set_option linter.unusedSimpArgs false
set_option linter.unusedVariables false
namespace Go.Tr
open Go Go.RowKit
theorem xU{xs:List ah}(nn:Du xs):fO xs:=by
 have hl2:=nn.l2;refine⟨by omega,fun i=> ?_⟩
 by_cases hi:i<xs.length
 ·have w:=nn.wf (i:Nat) (by omega) (by omega);have h1:=wf_data w;have h2:=(oI w).2;exact⟨by show(au xs (i:Nat)).2.2.2.1.length≤1048576;omega,by show(au xs (i:Nat)).2.2.2.2.length≤1048576;omega⟩
 ·rw[yQ (by omega)];decide
theorem rW{l:List Int}(h:bn l=true):l.length≤200:=by
 unfold bn at h;rw[qD]at h;have:=of_decide_eq_true h.1;omega
def qp(v s:Bool):Int:=bif v then(bif s then 0 else 2)else 1
end Go.Tr
namespace Go.Proofs.YtjpaeopdljfjpaaGreat
open Go Go.RowKit Go.Proofs Go.Tr
theorem vZ{bk:List (List ah)}{xs:List ah}(h:jh bk xs=true):(bk.length≤24∧∀i:Nat,i<bk.length→fO (elt (dflt fG) bk (i:Nat)))∧(xs.length≤600∧fO xs):=by
 unfold jh at h;rw[qD]at h;have nn:=vQ h.2;refine⟨⟨(DF h.1).2,fun i hi=>xU (vQ ?_)⟩,nn.l2,xU nn⟩;have hb:=h.1;unfold ig at hb;rw[qD,qV]at hb;have:=iF hb.2 hi;unfold jk at this;rw[qC,qY,qB hi]at this
 have e:elt (dflt fG) bk ((i:Nat):Int)=bk[i]:=by
  unfold elt;rw[qK,qC,qB hi];rfl
 rw[e];exact this
theorem K8:fD Tryz.prog 6=true:=by kernel_rfl
section
variable (bk:List (List ah))(xs:List ah)(sch:List Int)(ev:Int)
theorem Nw(st:Int):bg Tryz.prog 21 [.rsl fG bk,.ptr 10000 0,.rsl (.int .i64) sch,.int .i64 st] [.iG 10000 32 [.rsl bf xs]] (.int .i64 (p9 (jh bk xs) (bn sch&&cB st 0 4000))) [.iG 10000 32 [.rsl bf xs]]:=bg.RO fJ [0,54,0,0] K6 (Rb bk xs sch st) rfl
theorem JR:p9 (jh bk xs) (bn sch&&cB 0 0 4000)=p9 (jh bk xs) (bn sch):=by
 rw[show cB 0 0 4000=true from rfl,Bool.and_true]
set_option maxRecDepth 100000 in
theorem MO(c:Int)(hc:c≠0)(h:qp (jh bk xs) (bn sch&&cB ev 1 50)=c):bg Tryz.prog 6 [.rsl fG bk,.agg [.rsl bf xs],.rsl (.int .i64) sch,.int .i64 ev] [] (.tup [.agg Fq,.int .i64 c]) []:=by
 refine bg.intro (nt:=52) fJ mixed K8 Tryz.func6 rfl rfl rfl rfl rfl rfl ?_;refine Or.inr (eI _ (eI _ (aI (Nw bk xs sch 0) ?_)));refine Or.inl (eI _ (aI (fun _=>KJ ev 1 50) ?_));refine aI (fun q1=> ?_) (fun q1=> ?_)
 ·have q2:(bif p9 (jh bk xs) (bn sch&&cB 0 0 4000)==0 then !cB ev 1 50 else false)=true:=q1
  have:c=2:=by
   rw[JR]at q2;revert q2;rw[←h];cases jh bk xs<;>cases bn sch<;>cases cB ev 1 50<;>simp[p9,qp]
  subst this;refine aI (fun _=> ?_) (fun q2=>by cases q2);refine fin [] (aI rfl ?_);exact trivial
 ·have q2:(bif p9 (jh bk xs) (bn sch&&cB 0 0 4000)==0 then !cB ev 1 50 else false)=false:=q1
  have he:p9 (jh bk xs) (bn sch&&cB 0 0 4000)=c:=by
   rw[JR]at q2 ⊢;revert q2 hc;rw[←h];cases jh bk xs<;>cases bn sch<;>cases cB ev 1 50<;>simp[p9,qp]
  refine aI (fun _=> ?_) (fun q3=> ?_)
  ·refine fin [] (aI (congrArg (fun x=>SV.tup [.agg Fq,.int .i64 x]) he) ?_);exact trivial
  ·exfalso;have q4:(p9 (jh bk xs) (bn sch&&cB 0 0 4000) !=0)=false:=q3;rw[he]at q4;simp at q4;exact hc q4
theorem Qj{u:U}(x:El u):elt (dflt u) [x] ((0:Nat):Int)=x:=rfl
set_option maxHeartbeats 4000000 in
set_option maxRecDepth 100000 in
theorem OQ(hv:jh bk xs=true)(hs:bn sch=true)(he:cB ev 1 50=true):bg Tryz.prog 6 [.rsl fG bk,.agg [.rsl bf xs],.rsl (.int .i64) sch,.int .i64 ev] [] (.tup [.agg [.sl 10000,.sl 10001,.int .i64 ev,.int .i64 0,.sl 10002,.sl 10003,.sl 10004,.sl 10005],.int .i64 0])
  [.row 10000 32 1 fG bk [],.row 10001 2 1 (.int .i64) sch [],.row 10002 86 5 bf xs [],.row 10003 57 3 bT (dx xs.length) [],.row 10004 104 2 uM [] [],.row 10005 59 3 qg [((0:Int),xs,dx xs.length)] []]:=by
 obtain⟨⟨b1,b2⟩,b3,b4⟩:=vZ hv;have b5:=rW hs;refine lG.f ?_ rfl;refine lG.intro (nt:=52) fJ mixed K8 Tryz.func6 rfl rfl rfl rfl rfl rfl ?_;refine Or.inr (Or.inl (eI _ (eI _ (aI (Nw bk xs sch 0) ?_))));refine Or.inl (eI _ (aI (fun _=>KJ ev 1 50) ?_));have ha:p9 (jh bk xs) (bn sch&&cB 0 0 4000)=0:=by rw[JR,hv,hs];rfl
 refine aI (fun q1=> ?_) (fun _=> ?_)
 ·exfalso;have q2:(bif p9 (jh bk xs) (bn sch&&cB 0 0 4000)==0 then !cB ev 1 50 else false)=true:=q1;rw[ha,he]at q2;cases q2
 refine aI (fun q1=> ?_) (fun _=> ?_)
 ·exfalso;have q2:(p9 (jh bk xs) (bn sch&&cB 0 0 4000) !=0)=true:=q1;rw[ha]at q2;cases q2
 refine lp Nat (fun i=>[(12,.int .i64 (i:Nat)),(11,.sl 20000)]) (fun i=>[.iG 5 32 [.rsl bf xs],.iG 8 37 Fq,.row 20000 57 3 bT (dx i) []]) (fun i=>xs.length-i) (fun i=>i≤xs.length) 0 (Nat.zero_le _) ?_ ?_
 ·exact hd [(20000,28)] rfl (aI ⟨rfl,rfl⟩ (aI rfl trivial)) ⟨trivial,⟨rfl,trivial⟩,trivial,⟨rfl,rfl,⟨rfl,rfl⟩,⟨rfl,rfl⟩,rfl,rfl,rfl,rfl,trivial⟩,⟨rfl,nP⟩,trivial⟩
 intro i hi;refine aI (fun q1=> ?_) (fun q1=> ?_)
 ·have hlt:i<xs.length:=by have:((i:Nat):Int)<(xs.length:Nat):=of_decide_eq_true q1;omega
  refine aI (show(dx i).length+1≤1073741824 by rw[kP];omega) ?_;refine lX (i+1) hlt ?_ (by show xs.length-(i+1)<xs.length-i;omega);exact hd [(20000,40)] rfl (aI ⟨wB (by omega),rfl⟩ (aI rfl trivial)) ⟨trivial,⟨rfl,trivial⟩,trivial,⟨rfl,rfl,⟨rfl,rfl⟩,⟨rfl,rfl⟩,rfl,rfl,rfl,rfl,trivial⟩,⟨(xW i).symm,nP⟩,trivial⟩
 have hge:i=xs.length:=by have:¬((i:Nat):Int)<(xs.length:Nat):=of_decide_eq_false q1;omega
 subst hge
 have f1:bg Tryz.prog 23 [.ptr 10000 0] [.iG 10000 37 [.rsl fG bk,.rsl (.int .i64) sch,.int .i64 ev,.int .i64 0,.rsl bf xs,.rsl bT (dx xs.length),.raw (.slice none 0 0),.rsl qg [((0:Int),xs,dx xs.length)]]] _ _:=
  bg.OX (r2:=.agg [.sl 10001,.sl 10002,.int .i64 ev,.int .i64 0,.sl 10003,.sl 10004,.sl 10005,.sl 10006])
   (ts2:=[.row 10001 32 1 fG bk [],.row 10002 2 1 (.int .i64) sch [],.row 10003 86 5 bf xs [],.row 10004 57 3 bT (dx xs.length) [],.row 10005 104 2 uM [] [],.row 10006 59 3 qg [((0:Int),xs,dx xs.length)] []])
   fJ [61] Ih (O1 bk sch ev 0 xs (dx xs.length) [] [((0:Int),xs,dx xs.length)] (by omega) b2 (by omega) b4 (by rw[kP];omega) (by simp) (by simp) (fun i hi=>by
    have:i=0:=by simp at hi;omega
    subst this;rw[Qj];exact⟨b4,by show(dx xs.length).length≤_;rw[kP];omega⟩)) rfl rfl rfl
 refine Or.inr (Or.inl (eI _ (eI _ (aI f1 ?_))));refine fin [(10000,51),(10001,1000051),(10002,2000051),(10003,3000051),(10004,4000051),(10005,5000051)] (aI rfl ?_);exact⟨⟨rfl,nP⟩,⟨rfl,nP⟩,⟨rfl,nP⟩,⟨rfl,nP⟩,⟨rfl,nP⟩,⟨rfl,nP⟩,trivial⟩
end
end Go.Proofs.YtjpaeopdljfjpaaGreat
