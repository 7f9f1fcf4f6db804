
/- RecordTrace: what the reference does. -/
import Derived.Test.YtemalpelcdmemaaGreatShort
import Derived.Test.YtemalpelcdmemaaGreatUe
import Derived.Test.YtemalpelcdmemaaGreatRd
import Derived.Test.YtemalpelcdmemaaGreatUd
set_option maxRecDepth 100000
set_option linter.unusedSimpArgs false
set_option linter.unusedVariables false
namespace Go.Proofs.YtemalpelcdmemaaGreat
open Go Go.RowKit Go.Proofs Go.Tr
theorem YJ:callOk Tryz.prog 70=true:=by kernel_rfl
theorem SS:callOk Tryz.prog 32=true:=by kernel_rfl
section
variable (bk:List (List NAgent))(xs:List NAgent)(sch:List Int)(st:Int)
theorem askQ:aS Tryz.prog 89 [.rsl uNet bk,.rp uNet xs,.rsl (.int .i64) sch,.int .i64 st] (.int .i64 (rX (oH bk xs) (dV sch&&eZ st 0 4000))):=by
 refine aS.intro (nt:=25) ti_ok mixed (by kernel_rfl) Tryz.func89 rfl rfl rfl rfl rfl ?_;refine Or.inl (eI _ (aI (ZcD bk) ?_));refine Or.inl (eI _ (aI (fun _=>netQ xs) ?_));refine aI (fun q=> ?_) (fun q=> ?_)
 ·have e:(1:Int)=rX (oH bk xs) (dV sch&&eZ st 0 4000):=by rw[Zq bk xs q];rfl
  exact⟨e,rfl⟩
 have hv:=Zbk bk xs q;refine Or.inl (eI _ (aI (Zb6 sch) ?_));refine Or.inl (eI _ (aI (fun _=>LK st 0 4000) ?_));refine aI (fun q1=> ?_) (fun q1=> ?_)
 ·have q2:(bif !dV sch then true else !eZ st 0 4000)=true:=q1
  have e:(2:Int)=rX (oH bk xs) (dV sch&&eZ st 0 4000):=by
   rw[hv];revert q2;cases dV sch<;>cases eZ st 0 4000<;>simp[rX]
  exact⟨e,rfl⟩
 ·have q2:(bif !dV sch then true else !eZ st 0 4000)=false:=q1
  have e:(0:Int)=rX (oH bk xs) (dV sch&&eZ st 0 4000):=by
   rw[hv];revert q2;cases dV sch<;>cases eZ st 0 4000<;>simp[rX]
  exact⟨e,rfl⟩
theorem Zb7:aS Tryz.prog 70 [.rsl uNet bk,.rp uNet xs,.rsl (.int .i64) sch,.int .i64 st] (.int .i64 (rX (oH bk xs) (dV sch&&eZ st 0 300))):=by
 refine aS.intro (nt:=22) ti_ok mixed YJ Tryz.func70 rfl rfl rfl rfl rfl ?_;refine Or.inl (eI _ (aI (askQ bk xs sch 0) ?_));refine Or.inl (eI _ (aI (fun _=>LK st 0 300) ?_));have h0:eZ 0 0 4000=true:=rfl;refine aI (fun q1=> ?_) (fun q1=> ?_)
 ·have q2:(bif rX (oH bk xs) (dV sch&&eZ 0 0 4000)==0 then !eZ st 0 300 else false)=true:=q1
  have e:(2:Int)=rX (oH bk xs) (dV sch&&eZ st 0 300):=by
   rw[h0]at q2;revert q2;cases oH bk xs<;>cases dV sch<;>cases eZ st 0 300<;>simp[rX]
  exact⟨e,rfl⟩
 ·have q2:(bif rX (oH bk xs) (dV sch&&eZ 0 0 4000)==0 then !eZ st 0 300 else false)=false:=q1
  have e:rX (oH bk xs) (dV sch&&eZ 0 0 4000)=rX (oH bk xs) (dV sch&&eZ st 0 300):=by
   rw[h0]at q2 ⊢;revert q2;cases oH bk xs<;>cases dV sch<;>cases eZ st 0 300<;>simp[rX]
  exact⟨e,rfl⟩
theorem Un:FCall Tryz.prog 70 [.rsl uNet bk,.ptr 10000 0,.rsl (.int .i64) sch,.int .i64 st] [.cel 10000 36 [.rsl uAgent xs]] (.int .i64 (rX (oH bk xs) (dV sch&&eZ st 0 300))) [.cel 10000 36 [.rsl uAgent xs]]:=FCall.yt ti_ok [0,71,0,0] YJ (Zb7 bk xs sch st) rfl
theorem VA(hs:eT xs):FCall Tryz.prog 71 [.ptr 10000 0] [.cel 10000 36 [.rsl uAgent xs]] (.agg [.sl 10001]) [.row 10001 150 5 uAgent xs [],.cel 10000 36 [.rsl uAgent xs]]:=
 FCall.of_f (ts2:=[.row 10001 150 5 uAgent xs []]) ti_ok [71] Qz (Zau xs hs) rfl rfl rfl
abbrev V3:=List (Int×Bool)×List NAgent×List NAgent×List NEvent
def rsT(s:V3):List Tok:=[.cel 11 36 [.sl 20000],.row 20000 150 5 uAgent s.2.2.1 [],.row 20001 74 5 uEvent s.2.2.2 []]
theorem Zbg(ps:List (Int×Int))(k:Int)(h:decide (0<((sch.length:Nat):Int))=true):elt (dflt uPort) ps ((elt 0 sch (k.tmod ((sch.length:Nat):Int))).tmod ((ps.length:Nat):Int))=yY sch ps k:=by
 unfold yY WX FK;rw[h];rfl
theorem Zbf(ps:List (Int×Int))(k:Int)(h:decide (0<((sch.length:Nat):Int))=false):elt (dflt uPort) ps 0=yY sch ps k:=by
 unfold yY WX FK;rw[h,cond_false,Int.zero_tmod]
theorem Zdd{c:Int}(hc:c≠0)(h:rX (oH bk xs) (dV sch&&eZ st 0 300)=c):FCall Tryz.prog 32 [.rsl uNet bk,.agg [.rsl uAgent xs],.rsl (.int .i64) sch,.int .i64 st] [] (.tup [.raw (.slice none 0 0),.int .i64 c]) []:=by
 refine FCall.intro (nt:=72) ti_ok mixed SS Tryz.func32 rfl rfl rfl rfl rfl rfl ?_;have hE:=Un bk xs sch st;rw[h]at hE;refine Or.inr (eI _ (eI _ (aI hE ?_)));refine aI (fun q=> ?_) (fun q=> ?_)
 ·exact fin [] (aI rfl trivial)
 ·exfalso;have q2:(c !=0)=false:=q;simp at q2;exact hc q2
set_option maxHeartbeats 4000000 in
theorem Zde{c:Int}{out:List NEvent}(hs:eT xs)(hsch:∀z∈sch,0≤z)(h300:st≤300)(h:rX (oH bk xs) (dV sch&&eZ st 0 300)=0)(hc:c≠0)(R:Ku bk sch st [] xs xs [] c out):FCall Tryz.prog 32 [.rsl uNet bk,.agg [.rsl uAgent xs],.rsl (.int .i64) sch,.int .i64 st] [] (.tup [.raw (.slice none 0 0),.int .i64 c]) []:=by
 refine FCall.intro (nt:=72) ti_ok mixed SS Tryz.func32 rfl rfl rfl rfl rfl rfl ?_;have hE:=Un bk xs sch st;rw[h]at hE;refine Or.inr (eI _ (eI _ (aI hE ?_)));refine aI (fun q=>by cases q) (fun _=> ?_);refine Or.inr (eI _ (eI _ (aI (VA xs hs) ?_)));refine lp V3 (fun s=>[(12,.sl 20001)]) rsT (fun s=>301-s.2.2.2.length) (fun s=>Ku bk sch st s.1 s.2.1 s.2.2.1 s.2.2.2 c out) ([],xs,xs,[]) R ?_ ?_
 ·exact hd [(20000,24),(20001,25)] rfl (aI rfl trivial) ⟨trivial,⟨rfl,trivial⟩,⟨rfl,List.nil_prefix⟩,⟨rfl,List.nil_prefix⟩,trivial⟩
 rintro⟨kv,zs,ys,ev⟩ hR;have hR':Ku bk sch st kv zs ys ev c out:=hR;refine aI (fun q1=> ?_) (fun q1=> ?_)
 ·have q1':decide (((ev.length:Nat):Int)<st)=true:=q1;have hlt:((ev.length:Nat):Int)<st:=by simpa using q1'
  obtain⟨T,hl⟩:=hR'.tw;have hlen:=T.len;refine Or.inr (eI _ (eI _ (aI (YO ys [] (by omega) T.pos T.YU) ?_)));refine aI (fun q2=> ?_) (fun q2=> ?_)
  ·have q2':((((prsN ys).length:Nat):Int)==0)=true:=q2;have hz:(prsN ys).length=0:=by simpa using q2'
   exfalso;cases hR' with
   |stop=>exact hc rfl
   |bad _ _ _ hp=>omega
   |full _ _ _ hp=>omega
   |next _ _ _ hp=>omega
  have q2':((((prsN ys).length:Nat):Int)==0)=false:=q2;have hz0:¬(((prsN ys).length:Nat):Int)=0:=by simpa using q2'
  have hz:0<(prsN ys).length:=by omega
  have hb:=Hg hsch (n:=(((prsN ys).length:Nat):Int)) (by omega) ((ev.length:Nat):Int);refine aI (fun q3=> ?_) (fun q3=> ?_)
  ·have q4:decide (0<((sch.length:Nat):Int))=true:=q3;have q5:0<((sch.length:Nat):Int):=by simpa using q4
   have e:=Zbg sch (prsN ys) ((ev.length:Nat):Int) q4;have e0:elt 0 sch (((ev.length:Nat):Int).tmod ((sch.length:Nat):Int))=FK sch ((ev.length:Nat):Int):=by unfold FK;rw[q4];rfl
   have hb2:0≤(elt 0 sch (((ev.length:Nat):Int).tmod ((sch.length:Nat):Int))).tmod (((prsN ys).length:Nat):Int)∧(elt 0 sch (((ev.length:Nat):Int).tmod ((sch.length:Nat):Int))).tmod (((prsN ys).length:Nat):Int)<(((prsN ys).length:Nat):Int):=by rw[e0];exact hb
   refine aI (show((sch.length:Nat):Int)≠0 by omega) ?_;refine aI (VU (by omega) q5) ?_;refine aI (show(((prsN ys).length:Nat):Int)≠0 by omega) ?_;refine aI hb2 ?_;refine aI hb2 ?_;cases hR' with
   |stop _ _ _ h0=>
    rcases h0 with h0|h0
    ·rw[h0]at hz;exact absurd hz (by simp)
    ·omega
   |bad _ _ _ _ _ c2 hc2 hI hS=>
    have hS2:=hS [];rw[←e]at hS2;refine Or.inr (eI _ (eI _ (aI hS2 ?_)));refine aI (by kernel_rfl) ?_;refine aI (fun q6=> ?_) (fun q6=> ?_)
    ·exact fin [] (aI rfl trivial)
    ·exfalso;have q7:(c !=0)=false:=q6;simp at q7;exact hc q7
   |full _ _ _ _ _ c2 hc2 x' y' kv' ev' hI hS=>
    have hS2:=hS [];rw[←e]at hS2;refine Or.inr (eI _ (eI _ (aI hS2 ?_)));refine aI (by kernel_rfl) ?_;refine aI (fun q6=> ?_) (fun q6=> ?_)
    ·exact fin [] (aI rfl trivial)
    ·exfalso;have q7:(c !=0)=false:=q6;simp at q7;exact hc q7
   | @next _ _ _ _ _ _ _ _ _ x' y' kv' f _ _ hI hS r=>
    have hS2:=hS [];rw[←e]at hS2;refine Or.inr (eI _ (eI _ (aI hS2 ?_)));refine aI (by kernel_rfl) ?_;refine aI (fun q6=>by cases q6) (fun q6=> ?_);have hev:ev.length+1≤300:=by omega
    refine aI (show ev.length+1≤1073741824 by omega) ?_;refine lp_next (kv',x',y',ev++[f]) r ?_ ?_
    ·exact hd [(20000,61),(20001,70)] rfl (aI rfl trivial) ⟨trivial,⟨rfl,trivial⟩,⟨rfl,List.nil_prefix⟩,⟨rfl,List.nil_prefix⟩,trivial⟩
    ·show 301-(ev++[f]).length<301-ev.length;rw[List.length_append,List.length_singleton];omega
  ·have q4:decide (0<((sch.length:Nat):Int))=false:=q3;have e:=Zbf sch (prsN ys) ((ev.length:Nat):Int) q4;have hb2:(0:Int)≤0∧(0:Int)<(((prsN ys).length:Nat):Int):=by omega
   refine aI hb2 ?_;refine aI hb2 ?_;cases hR' with
   |stop _ _ _ h0=>
    rcases h0 with h0|h0
    ·rw[h0]at hz;exact absurd hz (by simp)
    ·omega
   |bad _ _ _ _ _ c2 hc2 hI hS=>
    have hS2:=hS [];rw[←e]at hS2;refine Or.inr (eI _ (eI _ (aI hS2 ?_)));refine aI (by kernel_rfl) ?_;refine aI (fun q6=> ?_) (fun q6=> ?_)
    ·exact fin [] (aI rfl trivial)
    ·exfalso;have q7:(c !=0)=false:=q6;simp at q7;exact hc q7
   |full _ _ _ _ _ c2 hc2 x' y' kv' ev' hI hS=>
    have hS2:=hS [];rw[←e]at hS2;refine Or.inr (eI _ (eI _ (aI hS2 ?_)));refine aI (by kernel_rfl) ?_;refine aI (fun q6=> ?_) (fun q6=> ?_)
    ·exact fin [] (aI rfl trivial)
    ·exfalso;have q7:(c !=0)=false:=q6;simp at q7;exact hc q7
   | @next _ _ _ _ _ _ _ _ _ x' y' kv' f _ _ hI hS r=>
    have hS2:=hS [];rw[←e]at hS2;refine Or.inr (eI _ (eI _ (aI hS2 ?_)));refine aI (by kernel_rfl) ?_;refine aI (fun q6=>by cases q6) (fun q6=> ?_);have hev:ev.length+1≤300:=by omega
    refine aI (show ev.length+1≤1073741824 by omega) ?_;refine lp_next (kv',x',y',ev++[f]) r ?_ ?_
    ·exact hd [(20000,61),(20001,70)] rfl (aI rfl trivial) ⟨trivial,⟨rfl,trivial⟩,⟨rfl,List.nil_prefix⟩,⟨rfl,List.nil_prefix⟩,trivial⟩
    ·show 301-(ev++[f]).length<301-ev.length;rw[List.length_append,List.length_singleton];omega
 ·have q1':decide (((ev.length:Nat):Int)<st)=false:=q1;have hge:st≤((ev.length:Nat):Int):=by simpa using q1'
  exfalso;cases hR' with
  |stop=>exact hc rfl
  |bad _ _ _ _ hp=>omega
  |full _ _ _ _ hp=>omega
  |next _ _ _ _ hp=>omega
set_option maxHeartbeats 4000000 in
theorem Zdf{c:Int}{out:List NEvent}(hs:eT xs)(hsch:∀z∈sch,0≤z)(h300:st≤300)(h:rX (oH bk xs) (dV sch&&eZ st 0 300)=0)(hc:c=0)(R:Ku bk sch st [] xs xs [] c out):FCall Tryz.prog 32 [.rsl uNet bk,.agg [.rsl uAgent xs],.rsl (.int .i64) sch,.int .i64 st] [] (.tup [.sl 10000,.int .i64 c]) [.row 10000 74 5 uEvent out []]:=by
 refine FCall.intro (nt:=72) ti_ok mixed SS Tryz.func32 rfl rfl rfl rfl rfl rfl ?_;have hE:=Un bk xs sch st;rw[h]at hE;refine Or.inr (eI _ (eI _ (aI hE ?_)));refine aI (fun q=>by cases q) (fun _=> ?_);refine Or.inr (eI _ (eI _ (aI (VA xs hs) ?_)));refine lp V3 (fun s=>[(12,.sl 20001)]) rsT (fun s=>301-s.2.2.2.length) (fun s=>Ku bk sch st s.1 s.2.1 s.2.2.1 s.2.2.2 c out) ([],xs,xs,[]) R ?_ ?_
 ·exact hd [(20000,24),(20001,25)] rfl (aI rfl trivial) ⟨trivial,⟨rfl,trivial⟩,⟨rfl,List.nil_prefix⟩,⟨rfl,List.nil_prefix⟩,trivial⟩
 rintro⟨kv,zs,ys,ev⟩ hR;have hR':Ku bk sch st kv zs ys ev c out:=hR;refine aI (fun q1=> ?_) (fun q1=> ?_)
 ·have q1':decide (((ev.length:Nat):Int)<st)=true:=q1;have hlt:((ev.length:Nat):Int)<st:=by simpa using q1'
  obtain⟨T,hl⟩:=hR'.tw;have hlen:=T.len;refine Or.inr (eI _ (eI _ (aI (YO ys [] (by omega) T.pos T.YU) ?_)));refine aI (fun q2=> ?_) (fun q2=> ?_)
  ·have q2':((((prsN ys).length:Nat):Int)==0)=true:=q2;have hz:(prsN ys).length=0:=by simpa using q2'
   subst hc;cases hR' with
   |stop=>exact fin [(10000,20001)] (aI rfl ⟨⟨rfl,List.nil_prefix⟩,trivial⟩)
   |bad _ _ _ hp=>omega
   |full _ _ _ hp=>omega
   |next _ _ _ hp=>omega
  have q2':((((prsN ys).length:Nat):Int)==0)=false:=q2;have hz0:¬(((prsN ys).length:Nat):Int)=0:=by simpa using q2'
  have hz:0<(prsN ys).length:=by omega
  have hb:=Hg hsch (n:=(((prsN ys).length:Nat):Int)) (by omega) ((ev.length:Nat):Int);refine aI (fun q3=> ?_) (fun q3=> ?_)
  ·have q4:decide (0<((sch.length:Nat):Int))=true:=q3;have q5:0<((sch.length:Nat):Int):=by simpa using q4
   have e:=Zbg sch (prsN ys) ((ev.length:Nat):Int) q4;have e0:elt 0 sch (((ev.length:Nat):Int).tmod ((sch.length:Nat):Int))=FK sch ((ev.length:Nat):Int):=by unfold FK;rw[q4];rfl
   have hb2:0≤(elt 0 sch (((ev.length:Nat):Int).tmod ((sch.length:Nat):Int))).tmod (((prsN ys).length:Nat):Int)∧(elt 0 sch (((ev.length:Nat):Int).tmod ((sch.length:Nat):Int))).tmod (((prsN ys).length:Nat):Int)<(((prsN ys).length:Nat):Int):=by rw[e0];exact hb
   refine aI (show((sch.length:Nat):Int)≠0 by omega) ?_;refine aI (VU (by omega) q5) ?_;refine aI (show(((prsN ys).length:Nat):Int)≠0 by omega) ?_;refine aI hb2 ?_;refine aI hb2 ?_;cases hR' with
   |stop _ _ _ h0=>
    rcases h0 with h0|h0
    ·rw[h0]at hz;exact absurd hz (by simp)
    ·omega
   |bad _ _ _ _ _ c2 hc2 _ _=>exact absurd hc hc2
   |full _ _ _ _ _ c2 hc2 x' y' kv' ev' _ _=>exact absurd hc hc2
   | @next _ _ _ _ _ _ _ _ _ x' y' kv' f _ _ hI hS r=>
    have hS2:=hS [];rw[←e]at hS2;refine Or.inr (eI _ (eI _ (aI hS2 ?_)));refine aI (by kernel_rfl) ?_;refine aI (fun q6=>by cases q6) (fun q6=> ?_);have hev:ev.length+1≤300:=by omega
    refine aI (show ev.length+1≤1073741824 by omega) ?_;refine lp_next (kv',x',y',ev++[f]) r ?_ ?_
    ·exact hd [(20000,61),(20001,70)] rfl (aI rfl trivial) ⟨trivial,⟨rfl,trivial⟩,⟨rfl,List.nil_prefix⟩,⟨rfl,List.nil_prefix⟩,trivial⟩
    ·show 301-(ev++[f]).length<301-ev.length;rw[List.length_append,List.length_singleton];omega
  ·have q4:decide (0<((sch.length:Nat):Int))=false:=q3;have e:=Zbf sch (prsN ys) ((ev.length:Nat):Int) q4;have hb2:(0:Int)≤0∧(0:Int)<(((prsN ys).length:Nat):Int):=by omega
   refine aI hb2 ?_;refine aI hb2 ?_;cases hR' with
   |stop _ _ _ h0=>
    rcases h0 with h0|h0
    ·rw[h0]at hz;exact absurd hz (by simp)
    ·omega
   |bad _ _ _ _ _ c2 hc2 _ _=>exact absurd hc hc2
   |full _ _ _ _ _ c2 hc2 x' y' kv' ev' _ _=>exact absurd hc hc2
   | @next _ _ _ _ _ _ _ _ _ x' y' kv' f _ _ hI hS r=>
    have hS2:=hS [];rw[←e]at hS2;refine Or.inr (eI _ (eI _ (aI hS2 ?_)));refine aI (by kernel_rfl) ?_;refine aI (fun q6=>by cases q6) (fun q6=> ?_);have hev:ev.length+1≤300:=by omega
    refine aI (show ev.length+1≤1073741824 by omega) ?_;refine lp_next (kv',x',y',ev++[f]) r ?_ ?_
    ·exact hd [(20000,61),(20001,70)] rfl (aI rfl trivial) ⟨trivial,⟨rfl,trivial⟩,⟨rfl,List.nil_prefix⟩,⟨rfl,List.nil_prefix⟩,trivial⟩
    ·show 301-(ev++[f]).length<301-ev.length;rw[List.length_append,List.length_singleton];omega
 ·have q1':decide (((ev.length:Nat):Int)<st)=false:=q1;have hge:st≤((ev.length:Nat):Int):=by simpa using q1'
  subst hc;cases hR' with
  |stop=>exact fin [(10000,20001)] (aI rfl ⟨⟨rfl,List.nil_prefix⟩,trivial⟩)
  |bad _ _ _ _ hp=>omega
  |full _ _ _ _ hp=>omega
  |next _ _ _ _ hp=>omega
end
end Go.Proofs.YtemalpelcdmemaaGreat
