
/- The reducer's active pairs. Printed by gen_uc.py. -/
import Derived.Test.YtemalpelcdmemaaGreatShort
import Derived.Test.YtemalpelcdmemaaGreatUb
import Derived.Test.YtemalpelcdmemaaGreatYg
set_option maxRecDepth 100000
set_option linter.unusedSimpArgs false
set_option linter.unusedVariables false
namespace Go.Proofs.YtemalpelcdmemaaGreat
open Go Go.RowKit Go.Proofs Go.Tr
section
variable (xs:List NAgent)(us:List Value)(bk:List (List NAgent))(kv:List (Int×Bool))(cn tr cu ex:List Int)
def tCU:List Tok:=[.cel 10000 125 [.ptr 10001 0],.cel 10001 129 [.ptr 10002 0,.sl 10005,.sl 10006,.sl 10007,.sl 10008],.cel 10002 109 [.sl 10003,.rsl uNet bk,.mp 10004],.row 10003 150 5 uAgent xs us,.map 10004 .bool kv,.row 10005 2 1 (.int .i64) cn [],.row 10006 2 1 (.int .i64) tr [],.row 10007 2 1 (.int .i64) cu [],.row 10008 2 1 (.int .i64) ex []]
def tKU(ps:List (Int×Int)):List Tok:=[.row 10000 96 2 uPort ps [],.cel 10001 125 [.ptr 10002 0],.cel 10002 129 [.ptr 10003 0,.sl 10006,.sl 10007,.sl 10008,.sl 10009],.cel 10003 109 [.sl 10004,.rsl uNet bk,.mp 10005],.row 10004 150 5 uAgent xs us,.map 10005 .bool kv,.row 10006 2 1 (.int .i64) cn [],.row 10007 2 1 (.int .i64) tr [],.row 10008 2 1 (.int .i64) cu [],.row 10009 2 1 (.int .i64) ex []]
def tDU(ps:List (Int×Int)):List Tok:=[.row 10010 96 2 uPort ps [],.cel 10001 125 [.ptr 10002 0],.cel 10002 129 [.ptr 10003 0,.sl 10006,.sl 10007,.sl 10008,.sl 10009],.cel 10003 109 [.sl 10004,.rsl uNet bk,.mp 10005],.row 10004 150 5 uAgent xs us,.map 10005 .bool kv,.row 10006 2 1 (.int .i64) cn [],.row 10007 2 1 (.int .i64) tr [],.row 10008 2 1 (.int .i64) cu [],.row 10009 2 1 (.int .i64) ex []]
theorem XJ(p:Int×Int):FCall Tryz.prog 151 [vP p,.ptr 10000 0] (tCU xs us bk kv cn tr cu ex) (.bool (bL false kv p.1)) (tCU xs us bk kv cn tr cu ex):=by
 refine FCall.intro (nt:=14) ti_ok mixed (by kernel_rfl) Tryz.func151 rfl rfl rfl rfl rfl rfl ?_;refine aI (by kernel_rfl) ?_;refine fin [] (aI rfl ?_);exact⟨trivial,⟨rfl,trivial⟩,trivial,⟨rfl,rfl,rfl,rfl,rfl,trivial⟩,trivial,⟨rfl,rfl,rfl,trivial⟩,⟨rfl,List.prefix_refl _⟩,rfl,⟨rfl,List.nil_prefix⟩,⟨rfl,List.nil_prefix⟩,⟨rfl,List.nil_prefix⟩,⟨rfl,List.nil_prefix⟩,trivial⟩
theorem idxU(ps:List (Int×Int))(hl:ps.length≤1000000):FCall Tryz.prog 192 [.sl 10000,.fn 151 [.ptr 10001 0]] (tKU xs us bk kv cn tr cu ex ps) (.int .i64 (Bg (kZ kv) ps 0)) (tKU xs us bk kv cn tr cu ex ps):=by
 refine FCall.intro (nt:=19) ti_ok mixed (by kernel_rfl) Tryz.func192 rfl rfl rfl rfl rfl rfl ?_;refine lp Nat (fun i=>[(8,.int .i64 (i:Nat))]) (fun _=>tKU xs us bk kv cn tr cu ex ps) (fun i=>ps.length-i) (fun i=>i≤ps.length∧Bg (kZ kv) ps 0=Bg (kZ kv) (ps.drop i) i) 0 ⟨Nat.zero_le _,rfl⟩ ?_ ?_
 ·exact hd [] rfl (aI (aI rfl rfl) trivial) ⟨⟨rfl,List.nil_prefix⟩,trivial,⟨rfl,trivial⟩,trivial,⟨rfl,rfl,rfl,rfl,rfl,trivial⟩,trivial,⟨rfl,rfl,rfl,trivial⟩,⟨rfl,List.prefix_refl _⟩,rfl,⟨rfl,List.nil_prefix⟩,⟨rfl,List.nil_prefix⟩,⟨rfl,List.nil_prefix⟩,⟨rfl,List.nil_prefix⟩,trivial⟩
 rintro i ⟨hi,he⟩;refine aI (fun q1=> ?_) (fun q1=> ?_)
 ·have hlt:i<ps.length:=ltU q1;refine aI (show 0≤((i:Nat):Int)∧((i:Nat):Int)<(ps.length:Nat) by omega) ?_;refine Or.inr (eI _ (eI _ (aI (XJ xs us bk kv cn tr cu ex (ps.getD i (0,0))) ?_)));rw[Fp (0,0) hlt]at he;refine aI (fun q2=> ?_) (fun q2=> ?_)
  ·rw[he,show Bg (kZ kv) (ps.getD i (0,0)::ps.drop (i+1)) i=i by unfold Bg;rw[show kZ kv (ps.getD i (0,0))=true from q2];rfl];exact fin [] (aI ⟨rfl,rfl⟩ ⟨⟨rfl,List.nil_prefix⟩,trivial,⟨rfl,trivial⟩,trivial,⟨rfl,rfl,rfl,rfl,rfl,trivial⟩,trivial,⟨rfl,rfl,rfl,trivial⟩,⟨rfl,List.prefix_refl _⟩,rfl,⟨rfl,List.nil_prefix⟩,⟨rfl,List.nil_prefix⟩,⟨rfl,List.nil_prefix⟩,⟨rfl,List.nil_prefix⟩,trivial⟩)
  ·refine lp_next (i+1) ⟨hlt,?_⟩ ?_ ?_
   ·rw[he]
    conv=>lhs;unfold Bg
    rw[show kZ kv (ps.getD i (0,0))=false from q2];rfl
   ·exact hd [] rfl (aI (aI (wrapS (by omega)) rfl) trivial) ⟨⟨rfl,List.nil_prefix⟩,trivial,⟨rfl,trivial⟩,trivial,⟨rfl,rfl,rfl,rfl,rfl,trivial⟩,trivial,⟨rfl,rfl,rfl,trivial⟩,⟨rfl,List.prefix_refl _⟩,rfl,⟨rfl,List.nil_prefix⟩,⟨rfl,List.nil_prefix⟩,⟨rfl,List.nil_prefix⟩,⟨rfl,List.nil_prefix⟩,trivial⟩
   ·show ps.length-(i+1)<ps.length-i;omega
 ·have hge:ps.length≤i:=geU q1;have hie:i=ps.length:=by omega
  subst hie;rw[he,List.drop_length];exact fin [] (aI ⟨rfl,rfl⟩ ⟨⟨rfl,List.nil_prefix⟩,trivial,⟨rfl,trivial⟩,trivial,⟨rfl,rfl,rfl,rfl,rfl,trivial⟩,trivial,⟨rfl,rfl,rfl,trivial⟩,⟨rfl,List.prefix_refl _⟩,rfl,⟨rfl,List.nil_prefix⟩,⟨rfl,List.nil_prefix⟩,⟨rfl,List.nil_prefix⟩,⟨rfl,List.nil_prefix⟩,trivial⟩)
structure DelU(ps:List (Int×Int))(s:Nat×Nat×List (Int×Int)):Prop where
 le:s.1<s.2.1∧s.2.1≤ps.length
 len:s.2.2.length=ps.length
 front:s.2.2.take s.1=(ps.take s.2.1).filter fun p=> !(kZ kv p)
 rest:s.2.2.drop s.2.1=ps.drop s.2.1
set_option maxHeartbeats 4000000 in
theorem delU(ps:List (Int×Int))(hl:ps.length≤1000000):FCall Tryz.prog 128 [.sl 10000,.fn 151 [.ptr 10001 0]] (tKU xs us bk kv cn tr cu ex ps) (.sl 10010) (tDU xs us bk kv cn tr cu ex (ps.filter fun p=> !(kZ kv p))):=by
 refine FCall.intro (nt:=42) ti_ok mixed (by kernel_rfl) Tryz.func128 rfl rfl rfl rfl rfl rfl ?_;refine Or.inr (eI _ (eI _ (aI (idxU xs us bk kv cn tr cu ex ps hl) ?_)));refine aI (fun q1=> ?_) (fun q1=> ?_)
 ·have q2:(Bg (kZ kv) ps 0== -1)=true:=q1;refine fin [(10010,10000)] (aI rfl ?_);refine⟨⟨?_,List.nil_prefix⟩,trivial,⟨rfl,trivial⟩,trivial,⟨rfl,rfl,rfl,rfl,rfl,trivial⟩,trivial,⟨rfl,rfl,rfl,trivial⟩,⟨rfl,List.prefix_refl _⟩,rfl,⟨rfl,List.nil_prefix⟩,⟨rfl,List.nil_prefix⟩,⟨rfl,List.nil_prefix⟩,⟨rfl,List.nil_prefix⟩,trivial⟩;exact(filter_all (Ma ps 0 (Int.le_refl 0) (by simpa using q2))).symm
 have q2:(Bg (kZ kv) ps 0== -1)=false:=q1;obtain⟨m,e1,hm,e2,e3⟩:=Mc (g:=kZ kv) (0,0) ps 0 (by simpa using q2);rw[Int.zero_add]at e1;rw[e1];refine lp (Nat×Nat×List (Int×Int)) (fun s=>[(5,.int .i64 (s.1:Nat)),(6,.int .i64 (s.2.1:Nat))]) (fun s=>tKU xs us bk kv cn tr cu ex s.2.2) (fun s=>ps.length-s.2.1) (DelU kv ps) (m,m+1,ps) ⟨⟨by show m<m+1;omega,by show m+1≤ps.length;omega⟩,rfl,?_,rfl⟩ ?_ ?_
 ·show ps.take m=(ps.take (m+1)).filter fun p=> !(kZ kv p)
  rw[List.take_add_one,List.filter_append,filter_all e2];have e4:kZ kv ps[m]=true:=by rw[←e3,List.getD_eq_getElem?_getD,List.getElem?_eq_getElem hm];rfl
  rw[show ps[m]?.toList=[ps[m]] by rw[List.getElem?_eq_getElem hm];rfl,J7 e4,List.append_nil]
 ·exact hd [] rfl (aI (aI rfl rfl) (aI (aI (wrapS (by omega)) rfl) trivial)) ⟨⟨rfl,List.nil_prefix⟩,trivial,⟨rfl,trivial⟩,trivial,⟨rfl,rfl,rfl,rfl,rfl,trivial⟩,trivial,⟨rfl,rfl,rfl,trivial⟩,⟨rfl,List.prefix_refl _⟩,rfl,⟨rfl,List.nil_prefix⟩,⟨rfl,List.nil_prefix⟩,⟨rfl,List.nil_prefix⟩,⟨rfl,List.nil_prefix⟩,trivial⟩
 rintro⟨i,j,zs⟩ ⟨⟨h1,h2⟩,h3,h4,h5⟩;have h1':i<j:=h1;have h2':j≤ps.length:=h2;have h3':zs.length=ps.length:=h3;have h4':zs.take i=(ps.take j).filter fun p=> !(kZ kv p):=h4
 have h5':zs.drop j=ps.drop j:=h5;refine aI (fun q3=> ?_) (fun q3=> ?_)
 ·have hlt:j<zs.length:=ltU q3;have hjp:j<ps.length:=by omega
  refine aI (show 0≤((j:Nat):Int)∧((j:Nat):Int)<(zs.length:Nat) by omega) ?_;refine Or.inr (eI _ (eI _ (aI (XJ xs us bk kv cn tr cu ex (zs.getD j (0,0))) ?_)))
  have hz:zs.getD j (0,0)=ps.getD j (0,0):=by
   have a:=Fp (0,0) hlt;have b:=Fp (0,0) hjp;rw[a,b]at h5';exact(List.cons.inj h5').1
  have h5n:zs.drop (j+1)=ps.drop (j+1):=by
   have a:=Fp (0,0) hlt;have b:=Fp (0,0) hjp;rw[a,b]at h5';exact(List.cons.inj h5').2
  have ht:ps.take (j+1)=ps.take j++[ps.getD j (0,0)]:=by rw[List.take_add_one,List.getElem?_eq_getElem hjp,List.getD_eq_getElem?_getD,List.getElem?_eq_getElem hjp];rfl
  refine aI (fun q4=> ?_) (fun q4=> ?_)
  ·have q5:kZ kv (zs.getD j (0,0))=false:=Eq.mp (Bool.not_eq_true' _) q4;rw[hz]at q5;refine aI (show 0≤((i:Nat):Int)∧((i:Nat):Int)<(zs.length:Nat) by omega) ?_;refine lp_next (i+1,j+1,zs.set i (zs.getD j (0,0))) ⟨⟨by show i+1<j+1;omega,by show j+1≤ps.length;omega⟩,by show(zs.set i _).length=_;rw[List.length_set];exact h3',?_,?_⟩ ?_ ?_
   ·show(zs.set i (zs.getD j (0,0))).take (i+1)=(ps.take (j+1)).filter fun p=> !(kZ kv p)
    rw[ht,List.filter_append,←h4',hz,Vr (by omega),TJ q5]
   ·show(zs.set i (zs.getD j (0,0))).drop (j+1)=ps.drop (j+1);rw[List.drop_set_of_lt (by omega)];exact h5n
   ·exact hd [] rfl (aI (aI (wrapS (by omega)) rfl) (aI (aI (wrapS (by omega)) rfl) trivial)) ⟨⟨rfl,List.nil_prefix⟩,trivial,⟨rfl,trivial⟩,trivial,⟨rfl,rfl,rfl,rfl,rfl,trivial⟩,trivial,⟨rfl,rfl,rfl,trivial⟩,⟨rfl,List.prefix_refl _⟩,rfl,⟨rfl,List.nil_prefix⟩,⟨rfl,List.nil_prefix⟩,⟨rfl,List.nil_prefix⟩,⟨rfl,List.nil_prefix⟩,trivial⟩
   ·show ps.length-(j+1)<ps.length-j;omega
  ·have q5:kZ kv (zs.getD j (0,0))=true:=Eq.mp (Bool.not_eq_false' _) q4;rw[hz]at q5;refine lp_next (i,j+1,zs) ⟨⟨by show i<j+1;omega,by show j+1≤ps.length;omega⟩,h3',?_,h5n⟩ ?_ ?_
   ·show zs.take i=(ps.take (j+1)).filter fun p=> !(kZ kv p)
    rw[ht,List.filter_append,←h4',J7 q5,List.append_nil]
   ·exact hd [] rfl (aI (aI rfl rfl) (aI (aI (wrapS (by omega)) rfl) trivial)) ⟨⟨rfl,List.nil_prefix⟩,trivial,⟨rfl,trivial⟩,trivial,⟨rfl,rfl,rfl,rfl,rfl,trivial⟩,trivial,⟨rfl,rfl,rfl,trivial⟩,⟨rfl,List.prefix_refl _⟩,rfl,⟨rfl,List.nil_prefix⟩,⟨rfl,List.nil_prefix⟩,⟨rfl,List.nil_prefix⟩,⟨rfl,List.nil_prefix⟩,trivial⟩
   ·show ps.length-(j+1)<ps.length-j;omega
 ·have hge:zs.length≤j:=geU q3;have hje:j=ps.length:=by omega
  subst hje;rw[List.take_length]at h4';have hli:(zs.take i).length=i:=by rw[List.length_take];omega
  refine aI (show 0≤((i:Nat):Int)∧((i:Nat):Int)<(zs.length:Nat) by omega) ?_;refine aI (show i+(zs.length-i)=zs.length by omega) ?_;refine aI ?_ ?_
  ·show 0≤((i:Nat):Int)∧((i:Nat):Int)≤(((zs.take i++List.replicate (zs.length-i) (dflt uPort)).length:Nat):Int);rw[List.length_append,List.length_replicate,hli];omega
  refine fin [(10010,41)] (aI rfl ?_);refine⟨⟨?_,List.nil_prefix⟩,trivial,⟨rfl,trivial⟩,trivial,⟨rfl,rfl,rfl,rfl,rfl,trivial⟩,trivial,⟨rfl,rfl,rfl,trivial⟩,⟨rfl,List.prefix_refl _⟩,rfl,⟨rfl,List.nil_prefix⟩,⟨rfl,List.nil_prefix⟩,⟨rfl,List.nil_prefix⟩,⟨rfl,List.nil_prefix⟩,trivial⟩;show(zs.take i++List.replicate (zs.length-i) (dflt uPort)).take i=ps.filter fun p=> !(kZ kv p)
  rw[←h4',List.take_left' hli]
end
theorem actU(xs:List NAgent)(us:List Value)(bk:List (List NAgent))(kv:List (Int×Bool))(cn tr cu ex:List Int)(hl:xs.length≤1000000)(hp:JD xs):FCall Tryz.prog 99 [.ptr 10000 0] (tU xs us bk kv cn tr cu ex) (.sl 10008) (.row 10008 96 2 uPort (zQ xs kv) []::tU xs us bk kv cn tr cu ex):=by
 refine FCall.intro (nt:=12) ti_ok mixed (by kernel_rfl) Tryz.func99 rfl rfl rfl rfl rfl rfl ?_;refine Or.inr (eI _ (eI _ (aI (Zc xs us bk kv hl hp) ?_)));refine Or.inr (eI _ (eI _ (aI (delU xs us bk kv cn tr cu ex (mh (MV xs) xs xs.length) (Nat.le_trans (Gg _ _ _) hl)) ?_)));refine fin [(10008,11)] (aI rfl ?_);exact⟨⟨rfl,List.nil_prefix⟩,trivial,⟨rfl,rfl,rfl,rfl,rfl,trivial⟩,trivial,⟨rfl,rfl,rfl,trivial⟩,⟨rfl,List.prefix_refl _⟩,rfl,⟨rfl,List.nil_prefix⟩,⟨rfl,List.nil_prefix⟩,⟨rfl,List.nil_prefix⟩,⟨rfl,List.nil_prefix⟩,trivial⟩
end Go.Proofs.YtemalpelcdmemaaGreat
