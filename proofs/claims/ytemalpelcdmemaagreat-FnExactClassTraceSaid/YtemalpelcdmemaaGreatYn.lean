
/- A reduction on both sides: begun, and to its end. -/
import Derived.Test.YtemalpelcdmemaaGreatShort
import Derived.Test.YtemalpelcdmemaaGreatYm
import Derived.Test.YtemalpelcdmemaaGreatUh
set_option maxRecDepth 100000
set_option linter.unusedSimpArgs false
set_option linter.unusedVariables false
namespace Go.Proofs.YtemalpelcdmemaaGreat
open Go Go.RowKit Go.Proofs Go.Tr
theorem UY:callOk Tryz.prog 98=true:=by kernel_rfl
abbrev g0(xs:List NAgent):GSt:=⟨[],xs,xs,xs,List.replicate 7 0,[],[(xs.length:Int)],[],[]⟩
section
variable (bk:List (List NAgent))(xs:List NAgent)(sch:List Int)(st:Int)
theorem WT(h:NetSmall xs):FCall Tryz.prog 150 [.rsl uNet bk,.agg [.rsl uAgent xs]] [] (.ptr 10000 0) (tU0 bk (g0 xs)):=by
 refine FCall.intro (nt:=15) ti_ok mixed (by kernel_rfl) Tryz.func150 rfl rfl rfl rfl rfl rfl ?_;refine Or.inr (eI _ (eI _ (aI (Y4 xs bk h) ?_)));refine aI (by decide) ?_;refine aI (by kernel_rfl) ?_;refine fin [(10000,14),(10001,7),(10002,1000007),(10003,2000007),(10004,8),(10005,12)] (aI rfl ?_);exact⟨trivial,⟨rfl,rfl,rfl,rfl,rfl,trivial⟩,trivial,⟨rfl,rfl,rfl,trivial⟩,⟨rfl,List.nil_prefix⟩,rfl,⟨rfl,List.nil_prefix⟩,⟨rfl,List.nil_prefix⟩,trivial⟩
theorem XM(h:askN (vldB bk xs) (schedB sch&&inB st 0 4000)=0):vldB bk xs=true∧schedB sch=true∧inB st 0 4000=true:=by
 revert h;cases vldB bk xs<;>cases schedB sch<;>cases inB st 0 4000<;>simp[askN]
theorem X6(q:(bif (bif !schedB sch then true else decide (st<0))then true else decide (4000<st))=true):(schedB sch&&inB st 0 4000)=false:=by
 rw[←Sk];unfold Xa;simp only[List.any_cons,List.any_nil,Bool.or_false];revert q;cases schedB sch<;>cases decide (st<0)<;>cases decide (4000<st)<;>simp
theorem Zar(q:(bif (bif !schedB sch then true else decide (st<0))then true else decide (4000<st))=false):(schedB sch&&inB st 0 4000)=true:=by
 rw[←Sk];unfold Xa;simp only[List.any_cons,List.any_nil,Bool.or_false];revert q;cases schedB sch<;>cases decide (st<0)<;>cases decide (4000<st)<;>simp
theorem Qu{c:Int}(h:askN (vldB bk xs) (schedB sch&&inB st 0 4000)=c)(hc:c≠0):FCall Tryz.prog 98 [.rsl uNet bk,.agg [.rsl uAgent xs],.rsl (.int .i64) sch,.int .i64 st] [] (.tup [.raw (.pointer none),.int .i64 c]) []:=by
 refine FCall.intro (nt:=34) ti_ok mixed UY Tryz.func98 rfl rfl rfl rfl rfl rfl ?_;refine Or.inl (eI _ (aI (Yq bk) ?_));refine Or.inl (eI _ (aI (fun _=>Zal xs) ?_));refine aI (fun q=> ?_) (fun q=> ?_)
 ·have e:c=1:=by rw[←h,VL bk xs q];rfl
  subst e;exact fin [] (aI rfl trivial)
 have hv:=Yv bk xs q;refine Or.inl (eI _ (aI (Vp sch) ?_));refine aI (fun q2=> ?_) (fun q2=> ?_)
 ·have e:c=2:=by rw[←h,hv,X6 sch st q2];rfl
  subst e;exact fin [] (aI rfl trivial)
 ·exfalso;rw[hv,Zar sch st q2]at h;exact hc h.symm
theorem Gl(hs:NetSmall xs)(h:askN (vldB bk xs) (schedB sch&&inB st 0 4000)=0):FCall Tryz.prog 98 [.rsl uNet bk,.agg [.rsl uAgent xs],.rsl (.int .i64) sch,.int .i64 st] [] (.tup [.ptr 10000 0,.int .i64 0]) (tU0 bk (g0 xs)):=by
 obtain⟨hv,hsc,hi⟩:=XM bk xs sch st h;refine FCall.intro (nt:=34) ti_ok mixed UY Tryz.func98 rfl rfl rfl rfl rfl rfl ?_;refine Or.inl (eI _ (aI (Yq bk) ?_));refine Or.inl (eI _ (aI (fun _=>Zal xs) ?_));refine aI (fun q=> ?_) (fun q=> ?_)
 ·have e:=VL bk xs q;rw[hv]at e;cases e
 refine Or.inl (eI _ (aI (Vp sch) ?_));refine aI (fun q2=> ?_) (fun q2=> ?_)
 ·have e:=X6 sch st q2;rw[hsc,hi]at e;cases e
 refine Or.inr (eI _ (eI _ (aI (WT bk xs hs) ?_)));refine fin [(10000,33),(10001,1000033),(10002,2000033),(10003,3000033),(10004,4000033),(10005,5000033)] (aI rfl ?_);exact⟨trivial,⟨rfl,rfl,rfl,rfl,rfl,trivial⟩,trivial,⟨rfl,rfl,rfl,trivial⟩,⟨rfl,List.nil_prefix⟩,rfl,⟨rfl,List.nil_prefix⟩,⟨rfl,List.nil_prefix⟩,trivial⟩
theorem DT:FCall Tryz.prog 89 [.rsl uNet bk,.ptr 10000 0,.rsl (.int .i64) sch,.int .i64 st] [.cel 10000 36 [.rsl uAgent xs]] (.int .i64 (askN (vldB bk xs) (schedB sch&&inB st 0 4000))) [.cel 10000 36 [.rsl uAgent xs]]:=FCall.of_q ti_ok [0,71,0,0] UG (askQ bk xs sch st) rfl
end
theorem Zad{bk:List (List NAgent)}{xs:List NAgent}(nn:ES xs):GOk bk (g0 xs):=by
 have hl:=nn.l2;refine⟨RS.start nn.twin,by show xs.length≤2400;omega,by show xs.length≤1800;omega,by show xs.length≤([]:List (Int×Bool)).length+600;rw[List.length_nil];omega,rfl,(fun z hz=>by cases hz),rfl,Nat.le_refl _,(fun z hz=>by cases hz),by show([]:List Int).length≤4000;decide,rfl,rfl⟩
theorem EM(al:Bool){bk:List (List NAgent)}{xs:List NAgent}{sch:List Int}{st:Int}(h:askN (vldB bk xs) (schedB sch&&inB st 0 4000)=0):NetSmall xs∧(∀z∈sch,0≤z)∧∃b c t,GTo al bk sch st (g0 xs) b c t:=by
 obtain⟨hv,hsc,hi⟩:=XM bk xs sch st h;unfold vldB at hv;rw[Bool.and_eq_true]at hv;have nb:=(Sv hv.1).1;have nn:=P6 hv.2;have hl2:=nn.l2
 have hs:NetSmall xs:=by
  refine⟨by omega,fun i=> ?_⟩
  by_cases hi:i<xs.length
  ·have w:=nn.wf (i:Nat) (by omega) (by omega);have h1:=wf_data w;have h2:=(gu w).2;exact⟨by show(ah xs (i:Nat)).2.2.2.1.length≤1048576;omega,by show(ah xs (i:Nat)).2.2.2.2.length≤1048576;omega⟩
  ·rw[pO (by omega)];decide
 have hsp:=RH hsc;have hst:=kr hi;exact⟨hs,hsp,Kh nb hsp hst.2 4000 (Zad nn) (by show((([]:List Int).length:Nat):Int)≤st;rw[List.length_nil];omega) (by show st≤((([]:List Int).length+4000:Nat):Int);rw[List.length_nil];omega)⟩
end Go.Proofs.YtemalpelcdmemaaGreat
