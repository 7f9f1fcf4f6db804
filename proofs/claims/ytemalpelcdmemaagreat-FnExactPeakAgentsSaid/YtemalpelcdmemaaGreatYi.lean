
/- The reducer's perform. Printed by gen_yi.py. -/
import Derived.Test.YtemalpelcdmemaaGreatShort
import Derived.Test.YtemalpelcdmemaaGreatYh
import Derived.Test.YtemalpelcdmemaaGreatYf
set_option maxRecDepth 100000
set_option linter.unusedSimpArgs false
set_option linter.unusedVariables false
set_option linter.unusedSectionVars false
namespace Go.Tr
open Go Go.RowKit
def Io(cn:List Int):Prop:=cn.length=7∧∀z∈cn,0≤z∧z≤1000000
def tN(cn:List Int)(c:Int):List Int:=cn.set (c-1).toNat (elt 0 cn (c-1)+1)
theorem YJ{cn:List Int}(h:Io cn){k:Int}(h0:0≤k)(h7:k<7):0≤elt 0 cn k∧elt 0 cn k≤1000000:=by
 have h1:=h.1;unfold elt;rw[List.getD_eq_getElem?_getD,List.getElem?_eq_getElem (by omega)];exact h.2 _ (List.getElem_mem _)
theorem NJ{cn:List Int}(h:Io cn){c:Int}(hc:1≤c∧c≤7):0≤IntKind.i64.wrap (c-1)∧IntKind.i64.wrap (c-1)<(cn.length:Nat):=by
 have:=h.1;rw[IntWalk.i64_in _ (by omega)];omega
theorem NK{cn:List Int}(h:Io cn){c:Int}(hc:1≤c∧c≤7):cn.set (IntKind.i64.wrap (c-1)).toNat (IntKind.i64.wrap (elt 0 cn (IntKind.i64.wrap (c-1))+1))=tN cn c:=by
 have:=YJ h (k:=c-1) (by omega) (by omega);rw[IntWalk.i64_in (c-1) (by omega),IntWalk.i64_in _ (by omega)];rfl
theorem FCall.rot{P:Program}{f:Nat}{args:List SV}{ts:List Tok}{r:SV}{t:Tok}{ts':List Tok}(h:FCall P f args ts r (t::ts')):FCall P f args ts r (ts'++[t]):=by
 refine⟨h.1,fun cx β w fr vs hI hd=>(h.2 cx β w fr vs hI hd).mono ?_⟩;rintro e w' ⟨v,β',rfl,h1,h2,h3⟩;refine⟨v,β',rfl,h1,h2,h3.perm ?_⟩;rw[List.map_append,List.map_cons,List.append_assoc];exact(List.perm_middle (l₁:=ts'.map (Tok.res cx β')) (l₂:=fr) (a:=Tok.res cx β' t)).symm
end Go.Tr
namespace Go.Proofs.YtemalpelcdmemaaGreat
open Go Go.RowKit Go.Proofs Go.Tr
theorem KL:callOk Tryz.prog 195=true:=by kernel_rfl
theorem KE(xs:List NAgent)(bk:List (List NAgent))(h:NetSmall xs):FCall Tryz.prog 101 [.rsl uNet bk,.agg [.sl 10000]] [.row 10000 150 5 uAgent xs []] (.ptr 10001 0) [.cel 10001 109 [.sl 10002,.rsl uNet bk,.mp 10003],.row 10002 150 5 uAgent xs [],.map 10003 .bool []]:=by
 refine FCall.intro (nt:=11) ti_ok mixed Qg Tryz.func101 rfl rfl rfl rfl rfl rfl ?_;refine Or.inr (eI _ (eI _ (aI (FCall.of_f (r2:=.agg [.sl 10001]) (ts2:=[.row 10001 150 5 uAgent xs []]) ti_ok [36] Je (AQ xs h) rfl rfl rfl) ?_)));refine fin [(10001,10),(10002,6),(10003,8)] (aI rfl ?_);exact⟨trivial,⟨rfl,rfl,rfl,trivial⟩,⟨rfl,List.nil_prefix⟩,rfl,trivial⟩
section
variable (xs:List NAgent)(us:List Value)(bk:List (List NAgent))(kv:List (Int×Bool))(cn tr cu ex:List Int)(X:Int×Int)(hX:XV xs X)
include hX
theorem MN{code:Int}(hc:code≠0)(hI:FCall Tryz.prog 103 [.ptr 10000 0,vP X] (tW xs us bk kv) (.int .i64 code) (tW xs us bk kv)):FCall Tryz.prog 195 [.ptr 10000 0,vP X] (tU xs us bk kv cn tr cu ex) (.int .i64 code) (tU xs us bk kv cn tr cu ex):=by
 refine FCall.intro (nt:=119) ti_ok mixed KL Tryz.func195 rfl rfl rfl rfl rfl rfl ?_;refine Or.inr (eI _ (eI _ (aI (FCall.of_q ti_ok [71,0] yX (AJ xs X hX.1 hX.2) rfl) ?_)));refine aI (by kernel_rfl) ?_;refine aI (fun q1=> ?_) (fun q1=> ?_)
 ·refine aI hX.2 ?_;refine Or.inr (eI _ (eI _ (aI hI ?_)));refine aI (by kernel_rfl) ?_;refine aI (fun q2=> ?_) (fun q2=> ?_)
  ·exact fin [] (aI ⟨rfl,rfl⟩ ⟨trivial,⟨rfl,rfl,rfl,rfl,rfl,trivial⟩,trivial,⟨rfl,rfl,rfl,trivial⟩,⟨rfl,List.prefix_refl _⟩,rfl,⟨rfl,List.nil_prefix⟩,⟨rfl,List.nil_prefix⟩,⟨rfl,List.nil_prefix⟩,⟨rfl,List.nil_prefix⟩,trivial⟩)
  ·exfalso;have q3:(code !=0)=false:=q2;simp at q3;exact hc q3
 ·refine aI hX.1 ?_;refine Or.inr (eI _ (eI _ (aI hI ?_)));refine aI (by kernel_rfl) ?_;refine aI (fun q2=> ?_) (fun q2=> ?_)
  ·exact fin [] (aI ⟨rfl,rfl⟩ ⟨trivial,⟨rfl,rfl,rfl,rfl,rfl,trivial⟩,trivial,⟨rfl,rfl,rfl,trivial⟩,⟨rfl,List.prefix_refl _⟩,rfl,⟨rfl,List.nil_prefix⟩,⟨rfl,List.nil_prefix⟩,⟨rfl,List.nil_prefix⟩,⟨rfl,List.nil_prefix⟩,trivial⟩)
  ·exfalso;have q3:(code !=0)=false:=q2;simp at q3;exact hc q3
set_option maxHeartbeats 4000000 in
theorem KO{x':List NAgent}{kv':List (Int×Bool)}{c v:Int}(hlx:x'.length≤800000)(hbig:x'.length≤2400)(hc:1≤c∧c≤7)(cX:(bn (ah xs X.1) (ah xs X.2)).1=c)(vX:(ah xs (bif (bn (ah xs X.1) (ah xs X.2)).2 then X.2 else X.1)).2.2.1=v)(hn:Io cn)(ht:tr.length≤100000)(hu:cu.length≤100000)(he:ex.length≤100000)
  (hI:FCall Tryz.prog 103 [.ptr 10000 0,vP X] (tW xs us bk kv) (.int .i64 0) (RL 10003 x' us bk kv')):FCall Tryz.prog 195 [.ptr 10000 0,vP X] (tU xs us bk kv cn tr cu ex) (.int .i64 0) (tUn x' us bk kv' (tN cn c) (tr++[c]) (cu++[IntKind.i64.wrap ((x'.length:Nat)-(kv'.length:Nat))]) (bif c==7 then ex++[v]else ex)):=by
 have hC:=AJ xs X hX.1 hX.2;rw[cX]at hC;have hcn:=NK hn hc;have hcb:=NJ hn hc;refine FCall.intro (nt:=119) ti_ok mixed KL Tryz.func195 rfl rfl rfl rfl rfl rfl ?_;refine Or.inr (eI _ (eI _ (aI (FCall.of_q ti_ok [71,0] yX hC rfl) ?_)));refine aI (by kernel_rfl) ?_;refine aI (fun q1=> ?_) (fun q1=> ?_)
 ·have hv:(ah xs X.2).2.2.1=v:=by rw[←vX,show(bn (ah xs X.1) (ah xs X.2)).2=true from q1];rfl
  refine aI hX.2 ?_;refine Or.inr (eI _ (eI _ (aI hI ?_)));refine aI (by kernel_rfl) ?_;refine aI (fun q2=>by cases q2) (fun q2=> ?_);refine aI (fun q3=> ?_) (fun q3=> ?_)
  ·refine aI (show ex.length+1≤1073741824 by omega) ?_;refine aI hcb ?_;refine aI hcb ?_;refine aI (show tr.length+1≤1073741824 by omega) ?_;refine Or.inr (eI _ (eI _ (aI (uD x' us bk kv') ?_)));refine aI (show cu.length+1≤1073741824 by omega) ?_;refine aI (by kernel_rfl) ?_;refine aI (fun q4=> ?_) (fun q4=> ?_)
   ·exfalso;have q5:decide ((2400:Int)<(x'.length:Nat))=true:=q4;simp at q5;omega
   ·have hxx:(ex++[(ah xs X.2).2.2.1]:List Int)=bif c==7 then ex++[v]else ex:=by rw[show(c==7)=true from q3,hv];rfl
    refine fin [(10008,10001),(10009,43),(10010,10003),(10011,76),(10012,90),(10013,56)] (aI ⟨rfl,rfl⟩ ?_);exact⟨trivial,⟨rfl,rfl,rfl,rfl,rfl,trivial⟩,trivial,⟨rfl,rfl,rfl,trivial⟩,⟨rfl,List.prefix_refl _⟩,rfl,⟨hcn,List.nil_prefix⟩,⟨rfl,List.nil_prefix⟩,⟨rfl,List.nil_prefix⟩,⟨hxx,List.nil_prefix⟩,trivial⟩
  ·refine aI hcb ?_;refine aI hcb ?_;refine aI (show tr.length+1≤1073741824 by omega) ?_;refine Or.inr (eI _ (eI _ (aI (uD x' us bk kv') ?_)));refine aI (show cu.length+1≤1073741824 by omega) ?_;refine aI (by kernel_rfl) ?_;refine aI (fun q4=> ?_) (fun q4=> ?_)
   ·exfalso;have q5:decide ((2400:Int)<(x'.length:Nat))=true:=q4;simp at q5;omega
   ·have hxx:(ex:List Int)=bif c==7 then ex++[v]else ex:=by rw[show(c==7)=false from q3];rfl
    refine fin [(10008,10001),(10009,43),(10010,10003),(10011,76),(10012,90),(10013,10007)] (aI ⟨rfl,rfl⟩ ?_);exact⟨trivial,⟨rfl,rfl,rfl,rfl,rfl,trivial⟩,trivial,⟨rfl,rfl,rfl,trivial⟩,⟨rfl,List.prefix_refl _⟩,rfl,⟨hcn,List.nil_prefix⟩,⟨rfl,List.nil_prefix⟩,⟨rfl,List.nil_prefix⟩,⟨hxx,List.nil_prefix⟩,trivial⟩
 ·have hv:(ah xs X.1).2.2.1=v:=by rw[←vX,show(bn (ah xs X.1) (ah xs X.2)).2=false from q1];rfl
  refine aI hX.1 ?_;refine Or.inr (eI _ (eI _ (aI hI ?_)));refine aI (by kernel_rfl) ?_;refine aI (fun q2=>by cases q2) (fun q2=> ?_);refine aI (fun q3=> ?_) (fun q3=> ?_)
  ·refine aI (show ex.length+1≤1073741824 by omega) ?_;refine aI hcb ?_;refine aI hcb ?_;refine aI (show tr.length+1≤1073741824 by omega) ?_;refine Or.inr (eI _ (eI _ (aI (uD x' us bk kv') ?_)));refine aI (show cu.length+1≤1073741824 by omega) ?_;refine aI (by kernel_rfl) ?_;refine aI (fun q4=> ?_) (fun q4=> ?_)
   ·exfalso;have q5:decide ((2400:Int)<(x'.length:Nat))=true:=q4;simp at q5;omega
   ·have hxx:(ex++[(ah xs X.1).2.2.1]:List Int)=bif c==7 then ex++[v]else ex:=by rw[show(c==7)=true from q3,hv];rfl
    refine fin [(10008,10001),(10009,43),(10010,10003),(10011,76),(10012,90),(10013,56)] (aI ⟨rfl,rfl⟩ ?_);exact⟨trivial,⟨rfl,rfl,rfl,rfl,rfl,trivial⟩,trivial,⟨rfl,rfl,rfl,trivial⟩,⟨rfl,List.prefix_refl _⟩,rfl,⟨hcn,List.nil_prefix⟩,⟨rfl,List.nil_prefix⟩,⟨rfl,List.nil_prefix⟩,⟨hxx,List.nil_prefix⟩,trivial⟩
  ·refine aI hcb ?_;refine aI hcb ?_;refine aI (show tr.length+1≤1073741824 by omega) ?_;refine Or.inr (eI _ (eI _ (aI (uD x' us bk kv') ?_)));refine aI (show cu.length+1≤1073741824 by omega) ?_;refine aI (by kernel_rfl) ?_;refine aI (fun q4=> ?_) (fun q4=> ?_)
   ·exfalso;have q5:decide ((2400:Int)<(x'.length:Nat))=true:=q4;simp at q5;omega
   ·have hxx:(ex:List Int)=bif c==7 then ex++[v]else ex:=by rw[show(c==7)=false from q3];rfl
    refine fin [(10008,10001),(10009,43),(10010,10003),(10011,76),(10012,90),(10013,10007)] (aI ⟨rfl,rfl⟩ ?_);exact⟨trivial,⟨rfl,rfl,rfl,rfl,rfl,trivial⟩,trivial,⟨rfl,rfl,rfl,trivial⟩,⟨rfl,List.prefix_refl _⟩,rfl,⟨hcn,List.nil_prefix⟩,⟨rfl,List.nil_prefix⟩,⟨rfl,List.nil_prefix⟩,⟨hxx,List.nil_prefix⟩,trivial⟩
set_option maxHeartbeats 4000000 in
theorem KS{x':List NAgent}{kv':List (Int×Bool)}{c v:Int}(hlx:x'.length≤800000)(hbig:2400<x'.length)(hls:vT x' kv')(hns:NetSmall (BJ x' kv'))(hc:1≤c∧c≤7)(cX:(bn (ah xs X.1) (ah xs X.2)).1=c)(vX:(ah xs (bif (bn (ah xs X.1) (ah xs X.2)).2 then X.2 else X.1)).2.2.1=v)(hn:Io cn)(ht:tr.length≤100000)(hu:cu.length≤100000)(he:ex.length≤100000)
  (hI:FCall Tryz.prog 103 [.ptr 10000 0,vP X] (tW xs us bk kv) (.int .i64 0) (RL 10003 x' us bk kv')):FCall Tryz.prog 195 [.ptr 10000 0,vP X] (tU xs us bk kv cn tr cu ex) (.int .i64 0) (tUn (BJ x' kv') [] bk [] (tN cn c) (tr++[c]) (cu++[IntKind.i64.wrap ((x'.length:Nat)-(kv'.length:Nat))]) (bif c==7 then ex++[v]else ex)):=by
 have hC:=AJ xs X hX.1 hX.2;rw[cX]at hC;have hcn:=NK hn hc;have hcb:=NJ hn hc;refine FCall.intro (nt:=119) ti_ok mixed KL Tryz.func195 rfl rfl rfl rfl rfl rfl ?_;refine Or.inr (eI _ (eI _ (aI (FCall.of_q ti_ok [71,0] yX hC rfl) ?_)));refine aI (by kernel_rfl) ?_;refine aI (fun q1=> ?_) (fun q1=> ?_)
 ·have hv:(ah xs X.2).2.2.1=v:=by rw[←vX,show(bn (ah xs X.1) (ah xs X.2)).2=true from q1];rfl
  refine aI hX.2 ?_;refine Or.inr (eI _ (eI _ (aI hI ?_)));refine aI (by kernel_rfl) ?_;refine aI (fun q2=>by cases q2) (fun q2=> ?_);refine aI (fun q3=> ?_) (fun q3=> ?_)
  ·refine aI (show ex.length+1≤1073741824 by omega) ?_;refine aI hcb ?_;refine aI hcb ?_;refine aI (show tr.length+1≤1073741824 by omega) ?_;refine Or.inr (eI _ (eI _ (aI (uD x' us bk kv') ?_)));refine aI (show cu.length+1≤1073741824 by omega) ?_;refine aI (by kernel_rfl) ?_;refine aI (fun q4=> ?_) (fun q4=> ?_)
   ·have hxx:(ex++[(ah xs X.2).2.2.1]:List Int)=bif c==7 then ex++[v]else ex:=by rw[show(c==7)=true from q3,hv];rfl
    refine Or.inl (eI _ (eI _ (aI (y8 x' us bk kv' hls (by omega)).rot (eI [_] (aI rfl ?_)))));refine Or.inr (eI _ (eI _ (aI (KE (BJ x' kv') bk hns) ?_)));refine aI (by kernel_rfl) ?_;refine fin [(10008,116),(10009,1000116),(10010,2000116),(10011,76),(10012,90),(10013,56)] (aI ⟨rfl,rfl⟩ ?_);exact⟨trivial,⟨rfl,rfl,rfl,rfl,rfl,trivial⟩,trivial,⟨rfl,rfl,rfl,trivial⟩,⟨rfl,List.nil_prefix⟩,rfl,⟨hcn,List.nil_prefix⟩,⟨rfl,List.nil_prefix⟩,⟨rfl,List.nil_prefix⟩,⟨hxx,List.nil_prefix⟩,trivial⟩
   ·exfalso;have q5:decide ((2400:Int)<(x'.length:Nat))=false:=q4;simp at q5;omega
  ·refine aI hcb ?_;refine aI hcb ?_;refine aI (show tr.length+1≤1073741824 by omega) ?_;refine Or.inr (eI _ (eI _ (aI (uD x' us bk kv') ?_)));refine aI (show cu.length+1≤1073741824 by omega) ?_;refine aI (by kernel_rfl) ?_;refine aI (fun q4=> ?_) (fun q4=> ?_)
   ·have hxx:(ex:List Int)=bif c==7 then ex++[v]else ex:=by rw[show(c==7)=false from q3];rfl
    refine Or.inl (eI _ (eI _ (aI (y8 x' us bk kv' hls (by omega)).rot (eI [_] (aI rfl ?_)))));refine Or.inr (eI _ (eI _ (aI (KE (BJ x' kv') bk hns) ?_)));refine aI (by kernel_rfl) ?_;refine fin [(10008,116),(10009,1000116),(10010,2000116),(10011,76),(10012,90),(10013,10007)] (aI ⟨rfl,rfl⟩ ?_);exact⟨trivial,⟨rfl,rfl,rfl,rfl,rfl,trivial⟩,trivial,⟨rfl,rfl,rfl,trivial⟩,⟨rfl,List.nil_prefix⟩,rfl,⟨hcn,List.nil_prefix⟩,⟨rfl,List.nil_prefix⟩,⟨rfl,List.nil_prefix⟩,⟨hxx,List.nil_prefix⟩,trivial⟩
   ·exfalso;have q5:decide ((2400:Int)<(x'.length:Nat))=false:=q4;simp at q5;omega
 ·have hv:(ah xs X.1).2.2.1=v:=by rw[←vX,show(bn (ah xs X.1) (ah xs X.2)).2=false from q1];rfl
  refine aI hX.1 ?_;refine Or.inr (eI _ (eI _ (aI hI ?_)));refine aI (by kernel_rfl) ?_;refine aI (fun q2=>by cases q2) (fun q2=> ?_);refine aI (fun q3=> ?_) (fun q3=> ?_)
  ·refine aI (show ex.length+1≤1073741824 by omega) ?_;refine aI hcb ?_;refine aI hcb ?_;refine aI (show tr.length+1≤1073741824 by omega) ?_;refine Or.inr (eI _ (eI _ (aI (uD x' us bk kv') ?_)));refine aI (show cu.length+1≤1073741824 by omega) ?_;refine aI (by kernel_rfl) ?_;refine aI (fun q4=> ?_) (fun q4=> ?_)
   ·have hxx:(ex++[(ah xs X.1).2.2.1]:List Int)=bif c==7 then ex++[v]else ex:=by rw[show(c==7)=true from q3,hv];rfl
    refine Or.inl (eI _ (eI _ (aI (y8 x' us bk kv' hls (by omega)).rot (eI [_] (aI rfl ?_)))));refine Or.inr (eI _ (eI _ (aI (KE (BJ x' kv') bk hns) ?_)));refine aI (by kernel_rfl) ?_;refine fin [(10008,116),(10009,1000116),(10010,2000116),(10011,76),(10012,90),(10013,56)] (aI ⟨rfl,rfl⟩ ?_);exact⟨trivial,⟨rfl,rfl,rfl,rfl,rfl,trivial⟩,trivial,⟨rfl,rfl,rfl,trivial⟩,⟨rfl,List.nil_prefix⟩,rfl,⟨hcn,List.nil_prefix⟩,⟨rfl,List.nil_prefix⟩,⟨rfl,List.nil_prefix⟩,⟨hxx,List.nil_prefix⟩,trivial⟩
   ·exfalso;have q5:decide ((2400:Int)<(x'.length:Nat))=false:=q4;simp at q5;omega
  ·refine aI hcb ?_;refine aI hcb ?_;refine aI (show tr.length+1≤1073741824 by omega) ?_;refine Or.inr (eI _ (eI _ (aI (uD x' us bk kv') ?_)));refine aI (show cu.length+1≤1073741824 by omega) ?_;refine aI (by kernel_rfl) ?_;refine aI (fun q4=> ?_) (fun q4=> ?_)
   ·have hxx:(ex:List Int)=bif c==7 then ex++[v]else ex:=by rw[show(c==7)=false from q3];rfl
    refine Or.inl (eI _ (eI _ (aI (y8 x' us bk kv' hls (by omega)).rot (eI [_] (aI rfl ?_)))));refine Or.inr (eI _ (eI _ (aI (KE (BJ x' kv') bk hns) ?_)));refine aI (by kernel_rfl) ?_;refine fin [(10008,116),(10009,1000116),(10010,2000116),(10011,76),(10012,90),(10013,10007)] (aI ⟨rfl,rfl⟩ ?_);exact⟨trivial,⟨rfl,rfl,rfl,rfl,rfl,trivial⟩,trivial,⟨rfl,rfl,rfl,trivial⟩,⟨rfl,List.nil_prefix⟩,rfl,⟨hcn,List.nil_prefix⟩,⟨rfl,List.nil_prefix⟩,⟨rfl,List.nil_prefix⟩,⟨hxx,List.nil_prefix⟩,trivial⟩
   ·exfalso;have q5:decide ((2400:Int)<(x'.length:Nat))=false:=q4;simp at q5;omega
end
end Go.Proofs.YtemalpelcdmemaaGreat
