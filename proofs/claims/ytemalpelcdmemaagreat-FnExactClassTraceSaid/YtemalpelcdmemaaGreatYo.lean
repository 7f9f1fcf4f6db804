
/- Reductions to the end or by some steps: what the program does. Printed by gen_yo.py. -/
import Derived.Test.YtemalpelcdmemaaGreatShort
import Derived.Test.YtemalpelcdmemaaGreatYn
set_option maxRecDepth 100000
set_option linter.unusedSimpArgs false
set_option linter.unusedVariables false
namespace Go.Proofs.YtemalpelcdmemaaGreat
open Go Go.RowKit Go.Proofs Go.Tr
theorem yZ:callOk Tryz.prog 94=true:=by kernel_rfl
theorem zY:callOk Tryz.prog 92=true:=by kernel_rfl
section
variable (bk:List (List NAgent))(xs:List NAgent)(sch:List Int)(st:Int)
theorem Yh{c:Int}(hc:c≠0)(h:askN (vldB bk xs) (schedB sch&&inB st 0 4000)=c):FCall Tryz.prog 94 [.rsl uNet bk,.agg [.rsl uAgent xs],.rsl (.int .i64) sch,.int .i64 st] [] (.tup [.raw (.pointer none),.int .i64 c]) ([]):=by
 refine FCall.intro (nt:=39) ti_ok mixed yZ Tryz.func94 rfl rfl rfl rfl rfl rfl ?_;refine Or.inr (eI _ (eI _ (aI (Qu bk xs sch st h hc) ?_)));refine aI (fun q=> ?_) (fun q=> ?_)
 ·exact fin [] (aI rfl trivial)
 ·exfalso;have q2:(c !=0)=false:=q;simp at q2;exact hc q2
theorem Yj{c:Int}(hc:c≠0)(hs:NetSmall xs)(hsch:∀z∈sch,0≤z)(h:askN (vldB bk xs) (schedB sch&&inB st 0 4000)=0){al b:Bool}{t:GSt}(R:GTo al bk sch st (g0 xs) b c t):FCall Tryz.prog 94 [.rsl uNet bk,.agg [.rsl uAgent xs],.rsl (.int .i64) sch,.int .i64 st] [] (.tup [.raw (.pointer none),.int .i64 c]) ([]):=by
 refine FCall.intro (nt:=39) ti_ok mixed yZ Tryz.func94 rfl rfl rfl rfl rfl rfl ?_;refine Or.inr (eI _ (eI _ (aI (Gl bk xs sch st hs h) ?_)));refine aI (fun q=>by cases q) (fun _=> ?_);refine Or.inr (eI _ (eI _ (aI (Vm bk sch st hsch rfl rfl R) ?_)));refine aI (fun q=> ?_) (fun q=> ?_)
 ·exact fin [] (aI rfl trivial)
 ·exfalso;have q2:(c !=0)=false:=q;simp at q2;exact hc q2
theorem Yl(hs:NetSmall xs)(hsch:∀z∈sch,0≤z)(h:askN (vldB bk xs) (schedB sch&&inB st 0 4000)=0){al:Bool}{t:GSt}(R:GTo al bk sch st (g0 xs) false 0 t):FCall Tryz.prog 94 [.rsl uNet bk,.agg [.rsl uAgent xs],.rsl (.int .i64) sch,.int .i64 st] [] (.tup [.raw (.pointer none),.int .i64 12]) ([]):=by
 refine FCall.intro (nt:=39) ti_ok mixed yZ Tryz.func94 rfl rfl rfl rfl rfl rfl ?_;refine Or.inr (eI _ (eI _ (aI (Gl bk xs sch st hs h) ?_)));refine aI (fun q=>by cases q) (fun _=> ?_);refine Or.inr (eI _ (eI _ (aI (Vm bk sch st hsch rfl rfl R) ?_)));refine aI (fun q=>by cases q) (fun _=> ?_);refine aI (fun _=> ?_) (fun q=>by cases q);exact fin [] (aI rfl trivial)
theorem Ym(hs:NetSmall xs)(hsch:∀z∈sch,0≤z)(h:askN (vldB bk xs) (schedB sch&&inB st 0 4000)=0){al:Bool}{t:GSt}(R:GTo al bk sch st (g0 xs) true 0 t):FCall Tryz.prog 94 [.rsl uNet bk,.agg [.rsl uAgent xs],.rsl (.int .i64) sch,.int .i64 st] [] (.tup [.ptr 10000 0,.int .i64 0]) (tU t.xs [] bk t.kv t.cn t.tr t.cu t.ex):=by
 refine FCall.intro (nt:=39) ti_ok mixed yZ Tryz.func94 rfl rfl rfl rfl rfl rfl ?_;refine Or.inr (eI _ (eI _ (aI (Gl bk xs sch st hs h) ?_)));refine aI (fun q=>by cases q) (fun _=> ?_);refine Or.inr (eI _ (eI _ (aI (Vm bk sch st hsch rfl rfl R) ?_)));refine aI (fun q=>by cases q) (fun _=> ?_);refine aI (fun q=>by cases q) (fun _=> ?_);refine fin [(10000,18),(10001,28),(10002,1000028),(10003,2000028),(10004,4000018),(10005,3000028),(10006,4000028),(10007,5000028)] (aI rfl ?_);exact⟨trivial,⟨rfl,rfl,rfl,rfl,rfl,trivial⟩,trivial,⟨rfl,rfl,rfl,trivial⟩,⟨rfl,List.nil_prefix⟩,rfl,⟨rfl,List.nil_prefix⟩,⟨rfl,List.nil_prefix⟩,⟨rfl,List.nil_prefix⟩,⟨rfl,List.nil_prefix⟩,trivial⟩
theorem Yi{c:Int}(hc:c≠0)(h:askN (vldB bk xs) (schedB sch&&inB st 0 4000)=c):FCall Tryz.prog 92 [.rsl uNet bk,.agg [.rsl uAgent xs],.rsl (.int .i64) sch,.int .i64 st] [] (.tup [.raw (.pointer none),.int .i64 c]) ([]):=by
 refine FCall.intro (nt:=36) ti_ok mixed zY Tryz.func92 rfl rfl rfl rfl rfl rfl ?_;refine Or.inr (eI _ (eI _ (aI (Qu bk xs sch st h hc) ?_)));refine aI (fun q=> ?_) (fun q=> ?_)
 ·exact fin [] (aI rfl trivial)
 ·exfalso;have q2:(c !=0)=false:=q;simp at q2;exact hc q2
theorem Yk{c:Int}(hc:c≠0)(hs:NetSmall xs)(hsch:∀z∈sch,0≤z)(h:askN (vldB bk xs) (schedB sch&&inB st 0 4000)=0){al b:Bool}{t:GSt}(R:GTo al bk sch st (g0 xs) b c t):FCall Tryz.prog 92 [.rsl uNet bk,.agg [.rsl uAgent xs],.rsl (.int .i64) sch,.int .i64 st] [] (.tup [.raw (.pointer none),.int .i64 c]) ([]):=by
 refine FCall.intro (nt:=36) ti_ok mixed zY Tryz.func92 rfl rfl rfl rfl rfl rfl ?_;refine Or.inr (eI _ (eI _ (aI (Gl bk xs sch st hs h) ?_)));refine aI (fun q=>by cases q) (fun _=> ?_);refine Or.inr (eI _ (eI _ (aI (Vm bk sch st hsch rfl rfl R) ?_)));refine aI (fun q=> ?_) (fun q=> ?_)
 ·exact fin [] (aI rfl trivial)
 ·exfalso;have q2:(c !=0)=false:=q;simp at q2;exact hc q2
theorem Yn(hs:NetSmall xs)(hsch:∀z∈sch,0≤z)(h:askN (vldB bk xs) (schedB sch&&inB st 0 4000)=0){al b:Bool}{t:GSt}(R:GTo al bk sch st (g0 xs) b 0 t):FCall Tryz.prog 92 [.rsl uNet bk,.agg [.rsl uAgent xs],.rsl (.int .i64) sch,.int .i64 st] [] (.tup [.ptr 10000 0,.int .i64 0]) (tU t.xs [] bk t.kv t.cn t.tr t.cu t.ex):=by
 refine FCall.intro (nt:=36) ti_ok mixed zY Tryz.func92 rfl rfl rfl rfl rfl rfl ?_;refine Or.inr (eI _ (eI _ (aI (Gl bk xs sch st hs h) ?_)));refine aI (fun q=>by cases q) (fun _=> ?_);refine Or.inr (eI _ (eI _ (aI (Vm bk sch st hsch rfl rfl R) ?_)));refine aI (fun q=>by cases q) (fun _=> ?_);refine fin [(10000,19),(10001,29),(10002,1000029),(10003,2000029),(10004,4000019),(10005,3000029),(10006,4000029),(10007,5000029)] (aI rfl ?_);exact⟨trivial,⟨rfl,rfl,rfl,rfl,rfl,trivial⟩,trivial,⟨rfl,rfl,rfl,trivial⟩,⟨rfl,List.nil_prefix⟩,rfl,⟨rfl,List.nil_prefix⟩,⟨rfl,List.nil_prefix⟩,⟨rfl,List.nil_prefix⟩,⟨rfl,List.nil_prefix⟩,trivial⟩
theorem Jf:callOk Tryz.prog 50=true:=by kernel_rfl
theorem zR{c:Int}(hc:c≠0)(h:FCall Tryz.prog 94 [.rsl uNet bk,.agg [.rsl uAgent xs],.rsl (.int .i64) sch,.int .i64 st] [] (.tup [.raw (.pointer none),.int .i64 c]) []):FCall Tryz.prog 50 [.rsl uNet bk,.agg [.rsl uAgent xs],.rsl (.int .i64) sch,.int .i64 st] [] (.tup [.agg [.raw (.slice none 0 0)],.raw (.slice none 0 0),.int .i64 c]) ([]):=by
 refine FCall.intro (nt:=34) ti_ok mixed Jf Tryz.func50 rfl rfl rfl rfl rfl rfl ?_;refine Or.inr (eI _ (eI _ (aI (h) ?_)));refine aI (fun q=> ?_) (fun q=> ?_)
 ·exact fin [] (aI rfl trivial)
 ·exfalso;have q2:(c !=0)=false:=q;simp at q2;exact hc q2
theorem Rp{P:List NAgent}{t:GSt}(h:FCall Tryz.prog 94 [.rsl uNet bk,.agg [.rsl uAgent xs],.rsl (.int .i64) sch,.int .i64 st] [] (.tup [.ptr 10000 0,.int .i64 0]) (tU t.xs [] bk t.kv t.cn t.tr t.cu t.ex))(hl:vT t.xs t.kv)(hx:t.xs.length≤900000)(hP:BJ t.xs t.kv=P):FCall Tryz.prog 50 [.rsl uNet bk,.agg [.rsl uAgent xs],.rsl (.int .i64) sch,.int .i64 st] [] (.tup [.agg [.sl 10000],.sl 10001,.int .i64 0]) ([.row 10000 150 5 uAgent P [],.row 10001 2 1 (.int .i64) t.cn []]):=by
 subst hP;refine FCall.intro (nt:=34) ti_ok mixed Jf Tryz.func50 rfl rfl rfl rfl rfl rfl ?_;refine Or.inr (eI _ (eI _ (aI (h) ?_)));refine aI (fun q=>by cases q) (fun _=> ?_);refine Or.inr (eI _ (eI _ (aI (y8 t.xs [] bk t.kv hl hx) ?_)));refine aI (by kernel_rfl) ?_;refine fin [(10000,29),(10001,4000018)] (aI rfl ?_);exact⟨⟨rfl,List.nil_prefix⟩,⟨rfl,List.nil_prefix⟩,trivial⟩
theorem yx:callOk Tryz.prog 48=true:=by kernel_rfl
theorem xu{c:Int}(hc:c≠0)(h:FCall Tryz.prog 92 [.rsl uNet bk,.agg [.rsl uAgent xs],.rsl (.int .i64) sch,.int .i64 st] [] (.tup [.raw (.pointer none),.int .i64 c]) []):FCall Tryz.prog 48 [.rsl uNet bk,.agg [.rsl uAgent xs],.rsl (.int .i64) sch,.int .i64 st] [] (.tup [.agg [.raw (.slice none 0 0)],.raw (.slice none 0 0),.int .i64 c]) ([]):=by
 refine FCall.intro (nt:=34) ti_ok mixed yx Tryz.func48 rfl rfl rfl rfl rfl rfl ?_;refine Or.inr (eI _ (eI _ (aI (h) ?_)));refine aI (fun q=> ?_) (fun q=> ?_)
 ·exact fin [] (aI rfl trivial)
 ·exfalso;have q2:(c !=0)=false:=q;simp at q2;exact hc q2
theorem F4{P:List NAgent}{t:GSt}(h:FCall Tryz.prog 92 [.rsl uNet bk,.agg [.rsl uAgent xs],.rsl (.int .i64) sch,.int .i64 st] [] (.tup [.ptr 10000 0,.int .i64 0]) (tU t.xs [] bk t.kv t.cn t.tr t.cu t.ex))(hl:vT t.xs t.kv)(hx:t.xs.length≤900000)(hP:BJ t.xs t.kv=P):FCall Tryz.prog 48 [.rsl uNet bk,.agg [.rsl uAgent xs],.rsl (.int .i64) sch,.int .i64 st] [] (.tup [.agg [.sl 10000],.sl 10001,.int .i64 0]) ([.row 10000 150 5 uAgent P [],.row 10001 2 1 (.int .i64) t.cn []]):=by
 subst hP;refine FCall.intro (nt:=34) ti_ok mixed yx Tryz.func48 rfl rfl rfl rfl rfl rfl ?_;refine Or.inr (eI _ (eI _ (aI (h) ?_)));refine aI (fun q=>by cases q) (fun _=> ?_);refine Or.inr (eI _ (eI _ (aI (y8 t.xs [] bk t.kv hl hx) ?_)));refine aI (by kernel_rfl) ?_;refine fin [(10000,29),(10001,4000018)] (aI rfl ?_);exact⟨⟨rfl,List.nil_prefix⟩,⟨rfl,List.nil_prefix⟩,trivial⟩
theorem zG:callOk Tryz.prog 43=true:=by kernel_rfl
theorem xQ{c:Int}(hc:c≠0)(h:FCall Tryz.prog 92 [.rsl uNet bk,.agg [.rsl uAgent xs],.rsl (.int .i64) sch,.int .i64 st] [] (.tup [.raw (.pointer none),.int .i64 c]) []):FCall Tryz.prog 43 [.rsl uNet bk,.agg [.rsl uAgent xs],.rsl (.int .i64) sch,.int .i64 st] [] (.tup [.raw (.slice none 0 0),.int .i64 c]) ([]):=by
 refine FCall.intro (nt:=27) ti_ok mixed zG Tryz.func43 rfl rfl rfl rfl rfl rfl ?_;refine Or.inr (eI _ (eI _ (aI (h) ?_)));refine aI (fun q=> ?_) (fun q=> ?_)
 ·exact fin [] (aI rfl trivial)
 ·exfalso;have q2:(c !=0)=false:=q;simp at q2;exact hc q2
theorem Ia{t:GSt}(h:FCall Tryz.prog 92 [.rsl uNet bk,.agg [.rsl uAgent xs],.rsl (.int .i64) sch,.int .i64 st] [] (.tup [.ptr 10000 0,.int .i64 0]) (tU t.xs [] bk t.kv t.cn t.tr t.cu t.ex)):FCall Tryz.prog 43 [.rsl uNet bk,.agg [.rsl uAgent xs],.rsl (.int .i64) sch,.int .i64 st] [] (.tup [.sl 10000,.int .i64 0]) ([.row 10000 2 1 (.int .i64) t.tr []]):=by
 refine FCall.intro (nt:=27) ti_ok mixed zG Tryz.func43 rfl rfl rfl rfl rfl rfl ?_;refine Or.inr (eI _ (eI _ (aI (h) ?_)));refine aI (fun q=>by cases q) (fun _=> ?_);refine fin [(10000,5000017)] (aI rfl ?_);exact⟨⟨rfl,List.nil_prefix⟩,trivial⟩
theorem zI:callOk Tryz.prog 46=true:=by kernel_rfl
theorem rT{c:Int}(hc:c≠0)(h:FCall Tryz.prog 94 [.rsl uNet bk,.agg [.rsl uAgent xs],.rsl (.int .i64) sch,.int .i64 st] [] (.tup [.raw (.pointer none),.int .i64 c]) []):FCall Tryz.prog 46 [.rsl uNet bk,.agg [.rsl uAgent xs],.rsl (.int .i64) sch,.int .i64 st] [] (.tup [.int .i64 0,.int .i64 c]) ([]):=by
 refine FCall.intro (nt:=28) ti_ok mixed zI Tryz.func46 rfl rfl rfl rfl rfl rfl ?_;refine Or.inr (eI _ (eI _ (aI (h) ?_)));refine aI (fun q=> ?_) (fun q=> ?_)
 ·exact fin [] (aI rfl trivial)
 ·exfalso;have q2:(c !=0)=false:=q;simp at q2;exact hc q2
theorem UQ:callOk Tryz.prog 95=true:=by kernel_rfl
theorem Vt(l:List Int)(h0:0<l.length)(hl:l.length≤1000000):aO Tryz.prog 95 [.rsl (.int .i64) l] (.int .i64 (pkOf l)):=by
 refine aO.intro (nt:=25) ti_ok mixed UQ Tryz.func95 rfl rfl rfl rfl rfl ?_;refine aI (fun q=> ?_) (fun q=> ?_)
 ·exfalso;have q2:decide (((l.length:Nat):Int)<1)=true:=q;simp only[decide_eq_true_eq]at q2;omega
 refine aI (show(0:Int)≤0∧(0:Int)<(l.length:Nat) by omega) ?_;refine lp Nat (fun i=>[(4,.int .i64 (i:Nat)),(3,.int .i64 (pkOf (l.take i)))]) (fun _=>[]) (fun i=>l.length-i) (fun i=>1≤i∧i≤l.length) 1 ⟨Nat.le_refl 1,h0⟩ ?_ ?_
 ·refine hd [] rfl (aI (aI rfl rfl) (aI (aI ?_ rfl) trivial)) trivial;show elt 0 l 0=pkOf (l.take 1);cases l with
  |nil=>exact absurd h0 (by simp)
  |cons a l=>rfl
 rintro i ⟨h1,hi⟩;have h1':1≤i:=h1;refine aI (fun q1=> ?_) (fun q1=> ?_)
 ·have hlt:i<l.length:=ltU q1;refine aI (show 0≤((i:Nat):Int)∧((i:Nat):Int)<(l.length:Nat) by omega) ?_;refine lp_next (i+1) ⟨by omega,hlt⟩ ?_ ?_
  ·refine hd [] rfl (aI (aI (wrapS (by omega)) rfl) (aI (aI ?_ rfl) trivial)) trivial
   have e:l.take (i+1)=l.take i++[elt 0 l ((i:Nat):Int)]:=by
    rw[List.take_add_one,List.getElem?_eq_getElem hlt];unfold elt;rw[Int.toNat_natCast,List.getD_eq_getElem?_getD,List.getElem?_eq_getElem hlt];rfl
   show max (pkOf (l.take i)) (elt 0 l ((i:Nat):Int))=pkOf (l.take (i+1));rw[e,MO (by rw[List.length_take];omega)];unfold Bv;cases hd2:decide (elt 0 l ((i:Nat):Int)<pkOf (l.take i))with
   |true=>simp only[decide_eq_true_eq]at hd2;simp only[cond_true];omega
   |false=>simp only[decide_eq_false_iff_not]at hd2;simp only[cond_false];omega
  ·show l.length-(i+1)<l.length-i;omega
 ·have hge:l.length≤i:=geU q1;have hi':i≤l.length:=hi;obtain rfl:i=l.length:=by omega
  have e:pkOf (l.take l.length)=pkOf l:=by rw[List.take_length]
  exact⟨e,rfl⟩
theorem Ic{t:GSt}(h:FCall Tryz.prog 94 [.rsl uNet bk,.agg [.rsl uAgent xs],.rsl (.int .i64) sch,.int .i64 st] [] (.tup [.ptr 10000 0,.int .i64 0]) (tU t.xs [] bk t.kv t.cn t.tr t.cu t.ex))(h0:0<t.cu.length)(hl:t.cu.length≤1000000):FCall Tryz.prog 46 [.rsl uNet bk,.agg [.rsl uAgent xs],.rsl (.int .i64) sch,.int .i64 st] [] (.tup [.int .i64 (pkOf t.cu),.int .i64 0]) ([]):=by
 refine FCall.intro (nt:=28) ti_ok mixed zI Tryz.func46 rfl rfl rfl rfl rfl rfl ?_;refine Or.inr (eI _ (eI _ (aI (h) ?_)));refine aI (fun q=>by cases q) (fun _=> ?_);refine Or.inr (eI _ (eI _ (aI (FCall.of_q ti_ok [50] UQ (Vt t.cu h0 hl) rfl) ?_)));exact fin [] (aI rfl trivial)
end
end Go.Proofs.YtemalpelcdmemaaGreat
