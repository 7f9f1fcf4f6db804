
/- RecordTrace: what the program does. -/
import Derived.Test.YtemalpelcdmemaaGreatShort
import Derived.Test.YtemalpelcdmemaaGreatUf
set_option maxRecDepth 100000
set_option linter.unusedSimpArgs false
set_option linter.unusedVariables false
namespace Go.Proofs.YtemalpelcdmemaaGreat
open Go Go.RowKit Go.Proofs Go.Tr
theorem SQ:callOk Tryz.prog 34=true:=by kernel_rfl
theorem Zdk(sch:List Int)(ps:List (Int×Int))(k:Int)(hs:∀z∈sch,0≤z)(hk:0≤k)(hp:0<ps.length):FCall Tryz.prog 77 [.rsl (.int .i64) sch,.sl 10000,.int .i64 k] [.row 10000 96 2 uPort ps []] (vP (yY sch ps k)) [.row 10000 96 2 uPort ps []]:=FCall.yt ti_ok [0,91,0] Za4 (selQ sch ps k hs hk hp) rfl
def rcT(bk:List (List NAgent))(s:V3):List Tok:=[.cel 20 87 [.ptr 1000020 0,.sl 20001],.cel 1000020 109 [.sl 20000,.rsl uNet bk,.mp 3000020],.row 20000 150 5 uAgent s.2.1 [],.map 3000020 .bool s.1,.row 20001 74 5 uEvent s.2.2.2 []]
section
variable (bk:List (List NAgent))(xs:List NAgent)(sch:List Int)(st:Int)
theorem Zda{c:Int}(hc:c≠0)(h:rX (oH bk xs) (dV sch&&eZ st 0 300)=c):FCall Tryz.prog 34 [.rsl uNet bk,.agg [.rsl uAgent xs],.rsl (.int .i64) sch,.int .i64 st] [] (.tup [.raw (.slice none 0 0),.int .i64 c]) []:=by
 refine FCall.intro (nt:=49) ti_ok mixed SQ Tryz.func34 rfl rfl rfl rfl rfl rfl ?_;refine Or.inr (eI _ (eI _ (aI (ZaF bk xs sch st h hc) ?_)));refine aI (fun q=> ?_) (fun q=> ?_)
 ·exact fin [] (aI rfl trivial)
 ·exfalso;have q2:(c !=0)=false:=q;simp at q2;exact hc q2
set_option maxHeartbeats 4000000 in
theorem Zdb{c:Int}{out:List NEvent}(hs:eT xs)(hsch:∀z∈sch,0≤z)(h300:st≤300)(h:rX (oH bk xs) (dV sch&&eZ st 0 300)=0)(hc:c≠0)(R:Ku bk sch st [] xs xs [] c out):FCall Tryz.prog 34 [.rsl uNet bk,.agg [.rsl uAgent xs],.rsl (.int .i64) sch,.int .i64 st] [] (.tup [.raw (.slice none 0 0),.int .i64 c]) []:=by
 refine FCall.intro (nt:=49) ti_ok mixed SQ Tryz.func34 rfl rfl rfl rfl rfl rfl ?_;refine Or.inr (eI _ (eI _ (aI (Y5 bk xs sch st hs h) ?_)));refine aI (fun q=>by cases q) (fun _=> ?_);refine lp V3 (fun s=>[(27,.int .i64 (s.2.2.2.length:Nat))]) (rcT bk) (fun s=>301-s.2.2.2.length) (fun s=>Ku bk sch st s.1 s.2.1 s.2.2.1 s.2.2.2 c out) ([],xs,xs,[]) R ?_ ?_
 ·exact hdm [⟨2000020,30000,74,5,uEvent⟩] [(20000,2000020),(20001,30000)] rfl (aI (aI (aI rfl rfl) trivial) ⟨trivial,⟨rfl,rfl,trivial⟩,trivial,⟨rfl,rfl,rfl,trivial⟩,⟨rfl,List.nil_prefix⟩,rfl,⟨rfl,List.nil_prefix⟩,trivial⟩)
 rintro⟨kv,zs,ys,ev⟩ hR;have hR':Ku bk sch st kv zs ys ev c out:=hR;refine aI (fun q1=> ?_) (fun q1=> ?_)
 ·have q1':decide (((ev.length:Nat):Int)<st)=true:=q1;have hlt:((ev.length:Nat):Int)<st:=by simpa using q1'
  obtain⟨T,hl⟩:=hR'.tw;have hA:=Zcq zs [] bk kv ev (by omega) (MH hR'.wl);rw[T.acts]at hA;refine Or.inr (eI _ (eI _ (aI hA ?_)));refine aI (fun q2=> ?_) (fun q2=> ?_)
  ·have q2':((((prsN ys).length:Nat):Int)==0)=true:=q2;have hz:(prsN ys).length=0:=by simpa using q2'
   exfalso;cases hR' with
   |stop=>exact hc rfl
   |bad _ _ _ hp=>omega
   |full _ _ _ hp=>omega
   |next _ _ _ hp=>omega
  have q2':((((prsN ys).length:Nat):Int)==0)=false:=q2;have hz0:¬(((prsN ys).length:Nat):Int)=0:=by simpa using q2'
  have hz:0<(prsN ys).length:=by omega
  refine Or.inr (eI _ (eI _ (aI (Zdk sch (prsN ys) ((ev.length:Nat):Int) hsch (by omega) hz) ?_)));cases hR' with
  |stop _ _ _ h0=>
   rcases h0 with h0|h0
   ·rw[h0]at hz;exact absurd hz (by simp)
   ·omega
  |bad _ _ _ _ _ c2 hc2 hI hS=>
   refine Or.inr (eI _ (eI _ (aI (hI []) ?_)));refine aI (fun q6=> ?_) (fun q6=> ?_)
   ·exact fin [] (aI rfl trivial)
   ·exfalso;have q7:(c !=0)=false:=q6;simp at q7;exact hc q7
  |full _ _ _ _ _ c2 hc2 x' y' kv' ev' hI hS=>
   refine Or.inr (eI _ (eI _ (aI (hI []) ?_)));refine aI (fun q6=> ?_) (fun q6=> ?_)
   ·exact fin [] (aI rfl trivial)
   ·exfalso;have q7:(c !=0)=false:=q6;simp at q7;exact hc q7
  | @next _ _ _ _ _ _ _ _ _ x' y' kv' f _ _ hI hS r=>
   refine Or.inr (eI _ (eI _ (aI (hI []) ?_)));refine aI (fun q6=>by cases q6) (fun q6=> ?_);have hev:ev.length+1≤300:=by omega
   refine lp_next (kv',x',y',ev++[f]) r ?_ ?_
   ·refine hd [(20000,40),(20001,1000040)] rfl (aI (aI ?_ rfl) trivial) ⟨trivial,⟨rfl,rfl,trivial⟩,trivial,⟨rfl,rfl,rfl,trivial⟩,⟨rfl,List.nil_prefix⟩,rfl,⟨rfl,List.nil_prefix⟩,trivial⟩;show IntKind.i64.wrap (((ev.length:Nat):Int)+1)=(((ev++[f]).length:Nat):Int);rw[List.length_append,List.length_singleton];exact wrapS (by omega)
   ·show 301-(ev++[f]).length<301-ev.length;rw[List.length_append,List.length_singleton];omega
 ·have q1':decide (((ev.length:Nat):Int)<st)=false:=q1;have hge:st≤((ev.length:Nat):Int):=by simpa using q1'
  exfalso;cases hR' with
  |stop=>exact hc rfl
  |bad _ _ _ _ hp=>omega
  |full _ _ _ _ hp=>omega
  |next _ _ _ _ hp=>omega
set_option maxHeartbeats 4000000 in
theorem Zdc{c:Int}{out:List NEvent}(hs:eT xs)(hsch:∀z∈sch,0≤z)(h300:st≤300)(h:rX (oH bk xs) (dV sch&&eZ st 0 300)=0)(hc:c=0)(R:Ku bk sch st [] xs xs [] c out):FCall Tryz.prog 34 [.rsl uNet bk,.agg [.rsl uAgent xs],.rsl (.int .i64) sch,.int .i64 st] [] (.tup [.sl 10000,.int .i64 c]) [.row 10000 74 5 uEvent out []]:=by
 refine FCall.intro (nt:=49) ti_ok mixed SQ Tryz.func34 rfl rfl rfl rfl rfl rfl ?_;refine Or.inr (eI _ (eI _ (aI (Y5 bk xs sch st hs h) ?_)));refine aI (fun q=>by cases q) (fun _=> ?_);refine lp V3 (fun s=>[(27,.int .i64 (s.2.2.2.length:Nat))]) (rcT bk) (fun s=>301-s.2.2.2.length) (fun s=>Ku bk sch st s.1 s.2.1 s.2.2.1 s.2.2.2 c out) ([],xs,xs,[]) R ?_ ?_
 ·exact hdm [⟨2000020,30000,74,5,uEvent⟩] [(20000,2000020),(20001,30000)] rfl (aI (aI (aI rfl rfl) trivial) ⟨trivial,⟨rfl,rfl,trivial⟩,trivial,⟨rfl,rfl,rfl,trivial⟩,⟨rfl,List.nil_prefix⟩,rfl,⟨rfl,List.nil_prefix⟩,trivial⟩)
 rintro⟨kv,zs,ys,ev⟩ hR;have hR':Ku bk sch st kv zs ys ev c out:=hR;refine aI (fun q1=> ?_) (fun q1=> ?_)
 ·have q1':decide (((ev.length:Nat):Int)<st)=true:=q1;have hlt:((ev.length:Nat):Int)<st:=by simpa using q1'
  obtain⟨T,hl⟩:=hR'.tw;have hA:=Zcq zs [] bk kv ev (by omega) (MH hR'.wl);rw[T.acts]at hA;refine Or.inr (eI _ (eI _ (aI hA ?_)));refine aI (fun q2=> ?_) (fun q2=> ?_)
  ·have q2':((((prsN ys).length:Nat):Int)==0)=true:=q2;have hz:(prsN ys).length=0:=by simpa using q2'
   subst hc;cases hR' with
   |stop=>exact fin [(10000,20001)] (aI rfl ⟨⟨rfl,List.nil_prefix⟩,trivial⟩)
   |bad _ _ _ hp=>omega
   |full _ _ _ hp=>omega
   |next _ _ _ hp=>omega
  have q2':((((prsN ys).length:Nat):Int)==0)=false:=q2;have hz0:¬(((prsN ys).length:Nat):Int)=0:=by simpa using q2'
  have hz:0<(prsN ys).length:=by omega
  refine Or.inr (eI _ (eI _ (aI (Zdk sch (prsN ys) ((ev.length:Nat):Int) hsch (by omega) hz) ?_)));cases hR' with
  |stop _ _ _ h0=>
   rcases h0 with h0|h0
   ·rw[h0]at hz;exact absurd hz (by simp)
   ·omega
  |bad _ _ _ _ _ c2 hc2 _ _=>exact absurd hc hc2
  |full _ _ _ _ _ c2 hc2 x' y' kv' ev' _ _=>exact absurd hc hc2
  | @next _ _ _ _ _ _ _ _ _ x' y' kv' f _ _ hI hS r=>
   refine Or.inr (eI _ (eI _ (aI (hI []) ?_)));refine aI (fun q6=>by cases q6) (fun q6=> ?_);have hev:ev.length+1≤300:=by omega
   refine lp_next (kv',x',y',ev++[f]) r ?_ ?_
   ·refine hd [(20000,40),(20001,1000040)] rfl (aI (aI ?_ rfl) trivial) ⟨trivial,⟨rfl,rfl,trivial⟩,trivial,⟨rfl,rfl,rfl,trivial⟩,⟨rfl,List.nil_prefix⟩,rfl,⟨rfl,List.nil_prefix⟩,trivial⟩;show IntKind.i64.wrap (((ev.length:Nat):Int)+1)=(((ev++[f]).length:Nat):Int);rw[List.length_append,List.length_singleton];exact wrapS (by omega)
   ·show 301-(ev++[f]).length<301-ev.length;rw[List.length_append,List.length_singleton];omega
 ·have q1':decide (((ev.length:Nat):Int)<st)=false:=q1;have hge:st≤((ev.length:Nat):Int):=by simpa using q1'
  subst hc;cases hR' with
  |stop=>exact fin [(10000,20001)] (aI rfl ⟨⟨rfl,List.nil_prefix⟩,trivial⟩)
  |bad _ _ _ _ hp=>omega
  |full _ _ _ _ hp=>omega
  |next _ _ _ _ hp=>omega
end
end Go.Proofs.YtemalpelcdmemaaGreat
