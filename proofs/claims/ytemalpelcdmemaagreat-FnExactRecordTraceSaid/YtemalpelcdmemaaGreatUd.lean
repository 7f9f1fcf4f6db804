
/- The program's recorder: what is selected, what may be recorded. -/
import Derived.Test.YtemalpelcdmemaaGreatShort
import Derived.Test.YtemalpelcdmemaaGreatUc
import Derived.Test.YtemalpelcdmemaaGreatRa
import Derived.Test.YtemalpelcdmemaaGreatIp
set_option maxRecDepth 100000
set_option linter.unusedSimpArgs false
set_option linter.unusedVariables false
namespace Go.Proofs.YtemalpelcdmemaaGreat
open Go Go.RowKit Go.Proofs Go.Tr
theorem Za4:callOk Tryz.prog 77=true:=by kernel_rfl
theorem Za2:callOk Tryz.prog 85=true:=by kernel_rfl
theorem selQ(sch:List Int)(ps:List (Int×Int))(k:Int)(hs:∀z∈sch,0≤z)(hk:0≤k)(hp:0<ps.length):aS Tryz.prog 77 [.rsl (.int .i64) sch,.rsl uPort ps,.int .i64 k] (vP (yY sch ps k)):=by
 refine aS.intro (nt:=25) ti_ok mixed Za4 Tryz.func77 rfl rfl rfl rfl rfl ?_;have hb:=Hg hs (n:=((ps.length:Nat):Int)) (by omega) k;refine aI (fun q1=> ?_) (fun q1=> ?_)
 ·have q2:decide (0<((sch.length:Nat):Int))=true:=q1;have q3:0<((sch.length:Nat):Int):=by simpa using q2
  have e:elt 0 sch (k.tmod ((sch.length:Nat):Int))=FK sch k:=by unfold FK;rw[q2];rfl
  refine aI (show((sch.length:Nat):Int)≠0 by omega) ?_;refine aI (VU hk q3) ?_;refine aI (show((ps.length:Nat):Int)≠0 by omega) ?_;refine aI ?_ ?_
  ·show 0≤(elt 0 sch (k.tmod ((sch.length:Nat):Int))).tmod _∧(elt 0 sch (k.tmod ((sch.length:Nat):Int))).tmod _<_;rw[e];exact hb
  ·have e2:yY sch ps k=elt (dflt uPort) ps ((elt 0 sch (k.tmod ((sch.length:Nat):Int))).tmod ((ps.length:Nat):Int)):=by rw[e];rfl
   rw[e2];exact rfl
 ·have q2:decide (0<((sch.length:Nat):Int))=false:=q1;have e:(0:Int)=FK sch k:=by unfold FK;rw[q2];rfl
  refine aI (show((ps.length:Nat):Int)≠0 by omega) ?_;refine aI ?_ ?_
  ·show 0≤(0:Int).tmod ((ps.length:Nat):Int)∧(0:Int).tmod ((ps.length:Nat):Int)<((ps.length:Nat):Int);rw[Int.zero_tmod];omega
  ·have e2:yY sch ps k=elt (dflt uPort) ps ((0:Int).tmod ((ps.length:Nat):Int)):=by unfold yY WX;rw[←e]
   rw[e2];exact rfl
theorem atM1(m n:Int):FCall Tryz.prog 143 [.int .i64 n,.ptr 10000 0] [.cel 10000 2 [.int .i64 m]] (.bool (Gp m n)) [.cel 10000 2 [.int .i64 m]]:=by
 refine FCall.intro (nt:=11) ti_ok mixed (by kernel_rfl) Tryz.func143 rfl rfl rfl rfl rfl rfl ?_;refine fin [] (aI rfl ?_);exact⟨trivial,⟨⟨rfl,rfl⟩,trivial⟩,trivial⟩
theorem idxM(m:Int)(xs:List Int)(hl:xs.length≤1000000):FCall Tryz.prog 194 [.rsl (.int .i64) xs,.fn 143 [.ptr 10000 0]] [.cel 10000 2 [.int .i64 m]] (.int .i64 (vQ (Gp m) xs 0)) [.cel 10000 2 [.int .i64 m]]:=by
 refine FCall.intro (nt:=19) ti_ok mixed (by kernel_rfl) Tryz.func194 rfl rfl rfl rfl rfl rfl ?_;refine lp Nat (fun i=>[(8,.int .i64 (i:Nat))]) (fun _=>[.cel 10000 2 [.int .i64 m]]) (fun i=>xs.length-i) (fun i=>i≤xs.length∧vQ (Gp m) xs 0=vQ (Gp m) (xs.drop i) i) 0 ⟨Nat.zero_le _,rfl⟩ ?_ ?_
 ·exact hd [] rfl (aI (aI rfl rfl) trivial) ⟨trivial,⟨⟨rfl,rfl⟩,trivial⟩,trivial⟩
 rintro i ⟨hi,he⟩;refine aI (fun q1=> ?_) (fun q1=> ?_)
 ·have hlt:i<xs.length:=ltU q1;refine aI (show 0≤((i:Nat):Int)∧((i:Nat):Int)<(xs.length:Nat) by omega) ?_;refine Or.inr (eI _ (eI _ (aI (atM1 m (xs.getD i 0)) ?_)));rw[Eh 0 hlt]at he;refine aI (fun q2=> ?_) (fun q2=> ?_)
  ·rw[he,show vQ (Gp m) (xs.getD i 0::xs.drop (i+1)) i=i by unfold vQ;rw[show Gp m (xs.getD i 0)=true from q2];rfl];exact fin [] (aI ⟨rfl,rfl⟩ ⟨trivial,⟨⟨rfl,rfl⟩,trivial⟩,trivial⟩)
  ·refine lp_next (i+1) ⟨hlt,?_⟩ ?_ ?_
   ·rw[he]
    conv=>lhs;unfold vQ
    rw[show Gp m (xs.getD i 0)=false from q2];rfl
   ·exact hd [] rfl (aI (aI (wrapS (by omega)) rfl) trivial) ⟨trivial,⟨⟨rfl,rfl⟩,trivial⟩,trivial⟩
   ·show xs.length-(i+1)<xs.length-i;omega
 ·have hge:xs.length≤i:=geU q1;have hie:i=xs.length:=by omega
  subst hie;rw[he,List.drop_length];exact fin [] (aI ⟨rfl,rfl⟩ ⟨trivial,⟨⟨rfl,rfl⟩,trivial⟩,trivial⟩)
theorem conM(m:Int)(xs:List Int)(hl:xs.length≤1000000):FCall Tryz.prog 142 [.rsl (.int .i64) xs,.fn 143 [.ptr 10000 0]] [.cel 10000 2 [.int .i64 m]] (.bool (xs.any (Gp m))) [.cel 10000 2 [.int .i64 m]]:=by
 refine FCall.intro (nt:=9) ti_ok mixed (by kernel_rfl) Tryz.func142 rfl rfl rfl rfl rfl rfl ?_;refine Or.inr (eI _ (eI _ (aI (idxM m xs hl) ?_)));rw[←PW (Gp m) xs 0 (by omega)];exact fin [] (aI rfl ⟨trivial,⟨⟨rfl,rfl⟩,trivial⟩,trivial⟩)
theorem atMQ(m:Int)(xs:List Int)(hl:xs.length≤1000000):aS Tryz.prog 85 [.int .i64 m,.rsl (.int .i64) xs] (.bool (!(xs.any (Gp m)))):=by
 refine aS.intro (nt:=9) ti_ok mixed Za2 Tryz.func85 rfl rfl rfl rfl rfl ?_;refine Or.inr (eI _ (eI _ (aI (conM m xs hl) ?_)));exact rfl
def rX(a b:Bool):Int:=bif a then(bif b then 0 else 2)else 1
noncomputable def oH(bk:List (List NAgent))(xs:List NAgent):Bool:=bookB (bk.map gN)&&netB (gN xs)
theorem Zq(bk:List (List NAgent))(xs:List NAgent)(h:(bif !bookB (bk.map gN)then true else !netB (gN xs))=true):oH bk xs=false:=by
 unfold oH;revert h;cases bookB (bk.map gN)<;>cases netB (gN xs)<;>simp
theorem Zbk(bk:List (List NAgent))(xs:List NAgent)(h:(bif !bookB (bk.map gN)then true else !netB (gN xs))=false):oH bk xs=true:=by
 unfold oH;revert h;cases bookB (bk.map gN)<;>cases netB (gN xs)<;>simp
theorem Zbu(m st:Int):(!([st].any (Gp m)))=eZ st 0 m:=by
 unfold eZ Gp;simp only[List.any_cons,List.any_nil,Bool.or_false]
 by_cases h1:st<0
 ·rw[decide_eq_true h1,decide_eq_false (show ¬0≤st by omega)];rfl
 ·rw[decide_eq_false h1,decide_eq_true (show 0≤st by omega),cond_false,Bool.true_and]
  by_cases h2:m<st
  ·rw[decide_eq_true h2,decide_eq_false (show ¬st≤m by omega)];rfl
  ·rw[decide_eq_false h2,decide_eq_true (show st≤m by omega)];rfl
theorem YI:callOk Tryz.prog 74=true:=by kernel_rfl
theorem Zcr(m st:Int):FCall Tryz.prog 85 [.int .i64 m,.sl 10000] [.row 10000 2 1 (.int .i64) [st] []] (.bool (eZ st 0 m)) [.row 10000 2 1 (.int .i64) [st] []]:=by
 rw[←Zbu];exact FCall.yt ti_ok [0,50] Za2 (atMQ m [st] (by simp)) rfl
section
variable (bk:List (List NAgent))(xs:List NAgent)(sch:List Int)(st:Int)
theorem ZaF{c:Int}(h:rX (oH bk xs) (dV sch&&eZ st 0 300)=c)(hc:c≠0):FCall Tryz.prog 74 [.rsl uNet bk,.agg [.rsl uAgent xs],.rsl (.int .i64) sch,.int .i64 st] [] (.tup [.raw (.pointer none),.int .i64 c]) []:=by
 refine FCall.intro (nt:=32) ti_ok mixed YI Tryz.func74 rfl rfl rfl rfl rfl rfl ?_;refine Or.inl (eI _ (aI (tmplI bk) ?_));refine Or.inl (eI _ (aI (fun _=>netI xs) ?_));refine aI (fun q=> ?_) (fun q=> ?_)
 ·have e:c=1:=by rw[←h,Zq bk xs q];rfl
  subst e;exact fin [] (aI rfl trivial)
 have hv:=Zbk bk xs q;have hS:=Zb sch;cases hs:dV sch with
 |false=>
  rw[hs]at hS;refine Or.inl (eI _ (aI hS ?_));refine aI (fun g=>by cases g) (fun _=> ?_);refine Or.inr (aI (fun g=>by cases g) (fun _=>eI (.bool false) ?_));refine aI (fun q2=> ?_) (fun q2=>by cases q2);have e:c=2:=by rw[←h,hv,hs];rfl
  subst e;exact fin [] (aI rfl trivial)
 |true=>
  rw[hs]at hS;have hA:=Zcr 300 st;cases hi:eZ st 0 300 with
  |true=>rw[hv,hs,hi]at h;exact absurd h.symm hc
  |false=>
  rw[hi]at hA;refine Or.inl (eI _ (aI hS ?_));refine aI (fun _=> ?_) (fun g=>by cases g);refine Or.inr (aI (fun _=>eI _ (eI _ (aI hA ?_))) (fun g=>by cases g));refine aI (fun q2=> ?_) (fun q2=>by cases q2);have e:c=2:=by rw[←h,hv,hs,hi];rfl
  subst e;exact fin [] (aI rfl trivial)
theorem Y5(hs:eT xs)(h:rX (oH bk xs) (dV sch&&eZ st 0 300)=0):FCall Tryz.prog 74 [.rsl uNet bk,.agg [.rsl uAgent xs],.rsl (.int .i64) sch,.int .i64 st] [] (.tup [.ptr 10000 0,.int .i64 0]) [.cel 10000 87 [.ptr 10001 0,.raw (.slice none 0 0)],.cel 10001 109 [.sl 10002,.rsl uNet bk,.mp 10003],.row 10002 150 5 uAgent xs [],.map 10003 .bool []]:=by
 have hh:oH bk xs=true∧dV sch=true∧eZ st 0 300=true:=by
  revert h;cases oH bk xs<;>cases dV sch<;>cases eZ st 0 300<;>simp[rX]
 obtain⟨hv,hsc,hi⟩:=hh;refine FCall.intro (nt:=32) ti_ok mixed YI Tryz.func74 rfl rfl rfl rfl rfl rfl ?_;refine Or.inl (eI _ (aI (tmplI bk) ?_));refine Or.inl (eI _ (aI (fun _=>netI xs) ?_));refine aI (fun q=> ?_) (fun q=> ?_)
 ·have e:=Zq bk xs q;rw[hv]at e;cases e
 have hS:=Zb sch;have hA:=Zcr 300 st;rw[hsc]at hS;rw[hi]at hA;refine Or.inl (eI _ (aI hS ?_));refine aI (fun _=> ?_) (fun g=>by cases g);refine Or.inr (aI (fun _=>eI _ (eI _ (aI hA ?_))) (fun g=>by cases g));refine aI (fun q2=>by cases q2) (fun _=> ?_);refine Or.inr (eI _ (eI _ (aI (Zan xs bk hs) ?_)));refine fin [(10000,31),(10001,1000031),(10002,2000031),(10003,3000031)] (aI rfl ?_);exact⟨trivial,⟨rfl,rfl,trivial⟩,trivial,⟨rfl,rfl,rfl,trivial⟩,⟨rfl,List.nil_prefix⟩,rfl,trivial⟩
end
end Go.Proofs.YtemalpelcdmemaaGreat
