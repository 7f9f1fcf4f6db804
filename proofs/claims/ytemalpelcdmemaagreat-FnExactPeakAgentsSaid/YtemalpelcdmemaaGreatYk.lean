
/- The reference's runs: holes taken out, a run begun, a step. Printed by gen_yk.py. -/
import Derived.Test.YtemalpelcdmemaaGreatShort
import Derived.Test.YtemalpelcdmemaaGreatRg
import Derived.Test.YtemalpelcdmemaaGreatYf
set_option maxRecDepth 100000
set_option linter.unusedSimpArgs false
set_option linter.unusedVariables false
set_option linter.unusedSectionVars false
namespace Go.Proofs.YtemalpelcdmemaaGreat
open Go Go.RowKit Go.Proofs Go.Tr
set_option maxHeartbeats 4000000 in
theorem packB(ys:List NAgent)(us:List Value)(pk:Int)(tr:List Int)(hs:NetSmall ys)(hl:ys.length≤900000)(hA:bE ys):FCall Tryz.prog 66 [.ptr 10000 0] (tB ys us pk tr) (.tup []) (R4 10003 (packN ys) [] pk tr):=by
 refine FCall.intro (nt:=89) ti_ok mixed (by kernel_rfl) Tryz.func66 rfl rfl rfl rfl rfl rfl ?_;refine lp Nat (fun i=>[(4,.int .i64 (i:Nat)),(3,.int .i64 (gG ys i:Nat)),(2,.sl 20000)]) (fun i=>[.cel 10000 124 [.sl 10001,.sl 10002,.int .i64 pk],.row 10001 150 5 uAgent ys us,.row 10002 2 1 (.int .i64) tr [],.row 20000 2 1 (.int .i64) (CU ys i) []]) (fun i=>ys.length-i) (fun i=>i≤ys.length) 0 (Nat.zero_le _) ?_ ?_
 ·exact hd [(20000,9)] rfl (aI (aI rfl rfl) (aI (aI rfl rfl) (aI rfl trivial))) ⟨trivial,⟨rfl,rfl,⟨rfl,rfl⟩,trivial⟩,⟨rfl,List.prefix_refl _⟩,⟨rfl,List.nil_prefix⟩,⟨rfl,List.nil_prefix⟩,trivial⟩
 intro i hi;refine aI (fun q1=> ?_) (fun q1=> ?_)
 ·have hlt:i<ys.length:=by
   have q2:decide (((i:Nat):Int)<(ys.length:Nat))=true:=q1;simp only[decide_eq_true_eq]at q2;omega
  have hbd:0≤((i:Nat):Int)∧((i:Nat):Int)<(ys.length:Nat):=by omega
  have hc:=Pj ys i;have hst:gG ys (i+1)=bif cB ys i then gG ys i+1 else gG ys i:=rfl
  refine aI (show(CU ys i).length+1≤1073741824 by rw[Mx];omega) ?_;refine aI hbd ?_;refine aI (fun q2=> ?_) (fun q2=> ?_)
  ·have q3:cB ys i=true:=q2;rw[q3]at hst;refine lp_next (i+1) hlt ?_ ?_
   ·refine hd [(20000,22)] rfl (aI (aI (wrapS (by omega)) rfl) (aI (aI ?_ rfl) (aI rfl trivial))) ⟨trivial,⟨rfl,rfl,⟨rfl,rfl⟩,trivial⟩,⟨rfl,List.prefix_refl _⟩,⟨rfl,List.nil_prefix⟩,⟨(Jb ys i).symm,List.nil_prefix⟩,trivial⟩;show IntKind.i64.wrap (((gG ys i:Nat):Int)+1)=((gG ys (i+1):Nat):Int);rw[hst];exact wrapS (by omega)
   ·show ys.length-(i+1)<ys.length-i;omega
  ·have q3:cB ys i=false:=q2;rw[q3]at hst;refine lp_next (i+1) hlt ?_ ?_
   ·refine hd [(20000,22)] rfl (aI (aI (wrapS (by omega)) rfl) (aI (aI ?_ rfl) (aI rfl trivial))) ⟨trivial,⟨rfl,rfl,⟨rfl,rfl⟩,trivial⟩,⟨rfl,List.prefix_refl _⟩,⟨rfl,List.nil_prefix⟩,⟨(Jb ys i).symm,List.nil_prefix⟩,trivial⟩;show((gG ys i:Nat):Int)=((gG ys (i+1):Nat):Int);rw[hst];rfl
   ·show ys.length-(i+1)<ys.length-i;omega
 have hie:i=ys.length:=by
  have q2:decide (((i:Nat):Int)<(ys.length:Nat))=false:=q1;simp only[decide_eq_false_iff_not]at q2;have hi':i≤ys.length:=hi;omega
 subst hie;refine lp Nat (fun k=>[(6,.int .i64 (k:Nat)),(2,.sl 20000),(5,.sl 20001)]) (fun k=>[.cel 10000 124 [.sl 10001,.sl 10002,.int .i64 pk],.row 10001 150 5 uAgent ys us,.row 10002 2 1 (.int .i64) tr [],.row 20000 2 1 (.int .i64) (CU ys ys.length) [],.row 20001 150 5 uAgent (dZ ys k) []]) (fun k=>ys.length-k) (fun k=>k≤ys.length) 0 (Nat.zero_le _) ?_ ?_
 ·exact hd [(20001,34)] rfl (aI (aI rfl rfl) (aI rfl (aI rfl trivial))) ⟨trivial,⟨rfl,rfl,⟨rfl,rfl⟩,trivial⟩,⟨rfl,List.prefix_refl _⟩,⟨rfl,List.nil_prefix⟩,⟨rfl,List.nil_prefix⟩,⟨rfl,List.nil_prefix⟩,trivial⟩
 intro k hk;have hk':k≤ys.length:=hk;refine aI (fun q1=> ?_) (fun q1=> ?_)
 ·have hlt:k<ys.length:=by
   have q2:decide (((k:Nat):Int)<(ys.length:Nat))=true:=q1;simp only[decide_eq_true_eq]at q2;omega
  have hbd:0≤((k:Nat):Int)∧((k:Nat):Int)<(ys.length:Nat):=by omega
  have hpl:=Gb ys k;have hst:dZ ys (k+1)=bif cB ys k then dZ ys k++[sZ (lF ys) (ah ys (k:Nat))]else dZ ys k:=rfl
  refine aI hbd ?_;refine aI (fun q2=> ?_) (fun q2=> ?_)
  ·have q3:cB ys k=true:=q2;rw[q3]at hst;refine aI hbd ?_;have hsk:=hs.2 k;have hsk2:(ah ys (k:Nat)).2.2.2.2.length≤1048576:=hsk.2;refine Or.inr (eI _ (eI _ (aI (Ab ys us ((k:Nat):Int) hsk.1 hsk.2) ?_)));refine lp Nat (fun j=>[(8,.int .i64 (j:Nat)),(2,.sl 21000),(5,.sl 21001)]) (fun j=>[.cel 7 150 [.int .i64 (ah ys (k:Nat)).1,.int .i64 (ah ys (k:Nat)).2.1,.int .i64 (ah ys (k:Nat)).2.2.1,.sl 59,.sl 21002],.cel 10000 124 [.sl 10001,.sl 10002,.int .i64 pk],.row 10001 150 5 uAgent ys us,.row 10002 2 1 (.int .i64) tr [],.row 21000 2 1 (.int .i64) (CU ys ys.length) [],.row 21001 150 5 uAgent (dZ ys k) [],.row 59 2 1 (.int .i64) (ah ys (k:Nat)).2.2.2.1 [],.row 21002 104 2 uPort (jD (lF ys) (ah ys (k:Nat)).2.2.2.2 j) []]) (fun j=>(ah ys (k:Nat)).2.2.2.2.length-j) (fun j=>j≤(ah ys (k:Nat)).2.2.2.2.length) 0 (Nat.zero_le _) ?_ ?_
   ·exact hd [(21000,20000),(21001,20001),(21002,1000059)] rfl (aI (aI rfl rfl) (aI rfl (aI rfl trivial))) ⟨trivial,⟨⟨rfl,rfl⟩,⟨rfl,rfl⟩,⟨rfl,rfl⟩,rfl,rfl,trivial⟩,trivial,⟨rfl,rfl,⟨rfl,rfl⟩,trivial⟩,⟨rfl,List.prefix_refl _⟩,⟨rfl,List.nil_prefix⟩,⟨rfl,List.nil_prefix⟩,⟨rfl,List.nil_prefix⟩,⟨rfl,List.nil_prefix⟩,⟨rfl,List.nil_prefix⟩,trivial⟩
   intro j hj;have hj':j≤(ah ys (k:Nat)).2.2.2.2.length:=hj;refine aI (fun q4=> ?_) (fun q4=> ?_)
   ·have hlt2:j<(ah ys (k:Nat)).2.2.2.2.length:=by
     have q5:decide (((j:Nat):Int)<((jD (lF ys) (ah ys (k:Nat)).2.2.2.2 j).length:Nat))=true:=q4;rw[y9]at q5;simp only[decide_eq_true_eq]at q5;omega
    have hbnd:0≤((j:Nat):Int)∧((j:Nat):Int)<((jD (lF ys) (ah ys (k:Nat)).2.2.2.2 j).length:Nat):=by rw[y9];omega
    have hin:ak ys (aF ys (((k:Nat):Int),((j:Nat):Int))):=hA _ ⟨hbd.1,hbd.2,by show(0:Int)≤(j:Nat);omega,by show((j:Nat):Int)<((ah ys (k:Nat)).2.2.2.2.length:Nat);omega⟩;have hpe:elt (dflt uPort) (jD (lF ys) (ah ys (k:Nat)).2.2.2.2 j) ((j:Nat):Int)=aF ys (((k:Nat):Int),((j:Nat):Int)):=Gs hlt2;refine aI hbnd ?_;refine aI (show 0≤(elt (dflt uPort) (jD (lF ys) (ah ys (k:Nat)).2.2.2.2 j) ((j:Nat):Int)).1∧(elt (dflt uPort) (jD (lF ys) (ah ys (k:Nat)).2.2.2.2 j) ((j:Nat):Int)).1<((CU ys ys.length).length:Nat) by rw[hpe,Mx];exact⟨hin.1,hin.2.1⟩) ?_
    refine aI hbnd ?_;refine aI (by kernel_rfl) ?_;refine lp_next (j+1) hlt2 ?_ ?_
    ·refine hd [] rfl (aI (aI (wrapS (by omega)) rfl) (aI rfl (aI rfl trivial))) ⟨trivial,⟨⟨rfl,rfl⟩,⟨rfl,rfl⟩,⟨rfl,rfl⟩,rfl,rfl,trivial⟩,trivial,⟨rfl,rfl,⟨rfl,rfl⟩,trivial⟩,⟨rfl,List.prefix_refl _⟩,⟨rfl,List.nil_prefix⟩,⟨rfl,List.nil_prefix⟩,⟨rfl,List.nil_prefix⟩,⟨rfl,List.nil_prefix⟩,⟨?_,List.nil_prefix⟩,trivial⟩;show(jD (lF ys) (ah ys (k:Nat)).2.2.2.2 j).set j (elt 0 (CU ys ys.length) (elt (dflt uPort) (jD (lF ys) (ah ys (k:Nat)).2.2.2.2 j) ((j:Nat):Int)).1,(elt (dflt uPort) (jD (lF ys) (ah ys (k:Nat)).2.2.2.2 j) ((j:Nat):Int)).2)=jD (lF ys) (ah ys (k:Nat)).2.2.2.2 (j+1)
     rw[Gt hlt2,Gs hlt2];have e2:elt (dflt uPort) (ah ys (k:Nat)).2.2.2.2 ((j:Nat):Int)=aF ys (((k:Nat):Int),((j:Nat):Int)):=rfl;rw[e2,WV ys hin.1 hin.2.1]
    ·show(ah ys (k:Nat)).2.2.2.2.length-(j+1)<(ah ys (k:Nat)).2.2.2.2.length-j;omega
   have hje:j=(ah ys (k:Nat)).2.2.2.2.length:=by
    have q5:decide (((j:Nat):Int)<((jD (lF ys) (ah ys (k:Nat)).2.2.2.2 j).length:Nat))=false:=q4;rw[y9]at q5;simp only[decide_eq_false_iff_not]at q5;omega
   refine aI (show(dZ ys k).length+1≤1073741824 by omega) ?_;refine lp_next (k+1) hlt ?_ ?_
   ·refine hd [(20000,21000),(20001,84)] rfl (aI (aI (wrapS (by omega)) rfl) (aI rfl (aI rfl trivial))) ⟨trivial,⟨rfl,rfl,⟨rfl,rfl⟩,trivial⟩,⟨rfl,List.prefix_refl _⟩,⟨rfl,List.nil_prefix⟩,⟨rfl,List.nil_prefix⟩,⟨?_,List.nil_prefix⟩,trivial⟩;show dZ ys k++[((ah ys (k:Nat)).1,(ah ys (k:Nat)).2.1,(ah ys (k:Nat)).2.2.1,(ah ys (k:Nat)).2.2.2.1,jD (lF ys) (ah ys (k:Nat)).2.2.2.2 j)]=dZ ys (k+1);rw[hst,hje,Jp];rfl
   ·show ys.length-(k+1)<ys.length-k;omega
  ·have q3:cB ys k=false:=q2;rw[q3]at hst;refine lp_next (k+1) hlt ?_ ?_
   ·exact hd [] rfl (aI (aI (wrapS (by omega)) rfl) (aI rfl (aI rfl trivial))) ⟨trivial,⟨rfl,rfl,⟨rfl,rfl⟩,trivial⟩,⟨rfl,List.prefix_refl _⟩,⟨rfl,List.nil_prefix⟩,⟨rfl,List.nil_prefix⟩,⟨hst.symm,List.nil_prefix⟩,trivial⟩
   ·show ys.length-(k+1)<ys.length-k;omega
 have hke:k=ys.length:=by
  have q2:decide (((k:Nat):Int)<(ys.length:Nat))=false:=q1;simp only[decide_eq_false_iff_not]at q2;omega
 subst hke;refine fin [(10003,20001)] (aI rfl ?_);exact⟨trivial,⟨rfl,rfl,⟨rfl,rfl⟩,trivial⟩,⟨rfl,List.nil_prefix⟩,⟨rfl,List.nil_prefix⟩,trivial⟩
theorem UH:callOk Tryz.prog 90=true:=by kernel_rfl
theorem Ji:callOk Tryz.prog 97=true:=by kernel_rfl
theorem beginS(xs:List NAgent)(hs:NetSmall xs):FCall Tryz.prog 90 [.rp uNet xs] [] (.ptr 10000 0) [.cel 10000 124 [.sl 10001,.raw (.slice none 0 0),.int .i64 (xs.length:Nat)],.row 10001 150 5 uAgent xs []]:=by
 refine FCall.intro (nt:=12) ti_ok mixed UH Tryz.func90 rfl rfl rfl rfl rfl rfl ?_;refine Or.inr (eI _ (eI _ (aI (Xc xs hs) ?_)));refine aI (by kernel_rfl) ?_;refine fin [(10000,11),(10001,4)] (aI rfl ?_);exact⟨trivial,⟨rfl,rfl,⟨rfl,rfl⟩,trivial⟩,⟨rfl,List.nil_prefix⟩,trivial⟩
abbrev tB2(xs:List NAgent)(pk:Int)(tr:List Int):List Tok:=[.cel 10000 124 [.sl 10003,.sl 10004,.int .i64 pk],.row 10003 150 5 uAgent xs [],.row 10004 2 1 (.int .i64) tr []]
theorem FCall.perm{P:Program}{f:Nat}{args:List SV}{ts:List Tok}{r:SV}{ts' ts2:List Tok}(h:FCall P f args ts r ts')(hp:ts'.Perm ts2):FCall P f args ts r ts2:=by
 refine⟨h.1,fun cx β w fr vs hI hd=>(h.2 cx β w fr vs hI hd).mono ?_⟩;rintro e w' ⟨v,β',rfl,h1,h2,h3⟩;exact⟨v,β',rfl,h1,h2,h3.perm ((hp.map _).append_right fr)⟩
theorem YW(P:List NAgent)(pk:Int)(tr:List Int)(hl:P.length≤1000000):FCall Tryz.prog 149 [.ptr 10000 0] (tB P [] pk tr) (.int .i64 (bR P P.length:Nat)) [.cel 10000 124 [.sl 10001,.sl 10002,.int .i64 pk],.row 10002 2 1 (.int .i64) tr [],.row 10001 150 5 uAgent P []]:=
 FCall.perm (FCall.of_q (ts:=tB P [] pk tr) ti_ok [71] okLive (liveQ P hl) rfl) (List.Perm.cons _ (List.Perm.swap _ _ _))
section
variable (bk:List (List NAgent))(P:List NAgent)(us:List Value)(pk:Int)(tr:List Int)(Q:Int×Int)(hQ:XV P Q)
include hQ
theorem Vx{code:Int}(hc:code≠0)(hB:FCall Tryz.prog 126 [.rsl uNet bk,.ptr 10000 0,.int .i64 Q.1,.int .i64 Q.2] (tB P us pk tr) (.int .i64 code) (tB P us pk tr)):FCall Tryz.prog 97 [.rsl uNet bk,.ptr 10000 0,vP Q] (tB P us pk tr) (.int .i64 code) (tB P us pk tr):=by
 refine FCall.intro (nt:=60) ti_ok mixed Ji Tryz.func97 rfl rfl rfl rfl rfl rfl ?_;refine aI hQ.1 ?_;refine aI hQ.2 ?_;refine Or.inl (eI _ (eI _ (aI (classE P us Q.1 Q.2) (eI [] (aI rfl ?_)))));refine aI (by kernel_rfl) ?_;refine Or.inr (eI _ (eI _ (aI hB ?_)));refine aI (by kernel_rfl) ?_;refine aI (fun q1=> ?_) (fun q1=> ?_)
 ·exact fin [] (aI ⟨rfl,rfl⟩ ⟨trivial,⟨rfl,rfl,⟨rfl,rfl⟩,trivial⟩,⟨rfl,List.prefix_refl _⟩,⟨rfl,List.nil_prefix⟩,trivial⟩)
 ·exfalso;have q2:(code !=0)=false:=q1;simp at q2;exact hc q2
theorem Xv{P':List NAgent}{c:Int}(hl:P'.length≤1000000)(ht:tr.length≤100000)(cQ:bO (ah P Q.1) (ah P Q.2)=c)(hB:FCall Tryz.prog 126 [.rsl uNet bk,.ptr 10000 0,.int .i64 Q.1,.int .i64 Q.2] (tB P us pk tr) (.int .i64 0) (R4 10003 P' [] pk tr)):FCall Tryz.prog 97 [.rsl uNet bk,.ptr 10000 0,vP Q] (tB P us pk tr) (.int .i64 0) (tB2 P' (Bv pk (bR P' P'.length:Nat)) (tr++[c])):=by
 have hC:=classE P us Q.1 Q.2;rw[cQ]at hC;refine FCall.intro (nt:=60) ti_ok mixed Ji Tryz.func97 rfl rfl rfl rfl rfl rfl ?_;refine aI hQ.1 ?_;refine aI hQ.2 ?_;refine Or.inl (eI _ (eI _ (aI hC (eI [] (aI rfl ?_)))));refine aI (by kernel_rfl) ?_;refine Or.inr (eI _ (eI _ (aI hB ?_)));refine aI (by kernel_rfl) ?_;refine aI (fun q1=>by cases q1) (fun q1=> ?_);refine aI (show tr.length+1≤1073741824 by omega) ?_;refine Or.inl (eI _ (eI _ (aI (YW P' pk (tr++[c]) hl) (eI [] (aI rfl ?_)))));refine Or.inl (eI _ (aI (maxS pk _) ?_));refine aI (by kernel_rfl) ?_;refine fin [(10003,34),(10004,45)] (aI ⟨rfl,rfl⟩ ?_)
 exact⟨trivial,⟨rfl,rfl,⟨rfl,rfl⟩,trivial⟩,⟨rfl,List.nil_prefix⟩,⟨rfl,List.nil_prefix⟩,trivial⟩
end
end Go.Proofs.YtemalpelcdmemaaGreat
