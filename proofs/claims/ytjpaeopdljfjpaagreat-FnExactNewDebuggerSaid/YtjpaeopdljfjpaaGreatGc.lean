
/- A new debugger: the program's side. -/
import Derived.Test.YtjpaeopdljfjpaaGreatShort
import Derived.Test.YtjpaeopdljfjpaaGreatGb
import Derived.Test.YtjpaeopdljfjpaaGreatRa
set_option maxRecDepth 100000
set_option linter.unusedSimpArgs false
set_option linter.unusedVariables false
namespace Go.Tr
open Go Go.RowKit
theorem bg.QE{P:Program}{f:Nat}{args:List SV}{ts:List Tok}{r:SV}{t:Tok}{ts':List Tok}(h:bg P f args ts r (t::ts')):bg P f args ts r (ts'++[t]):=by
 refine⟨h.1,fun cx β w fr vs hI hd=>(h.2 cx β w fr vs hI hd).mono ?_⟩;rintro e w' ⟨v,β',rfl,h1,h2,h3⟩;refine⟨v,β',rfl,h1,h2,h3.perm ?_⟩;rw[qZ,List.map_cons,qF];exact(List.perm_middle (l₁:=ts'.map (Tok.res cx β')) (l₂:=fr) (a:=Tok.res cx β' t)).symm
end Go.Tr
namespace Go.Proofs.YtjpaeopdljfjpaaGreat
open Go Go.RowKit Go.Proofs Go.Tr
theorem I7(bk:List (El fG))(hb:bk.length≤1048576)(hbk:∀i:Nat,i<bk.length→fO (elt (dflt fG) bk (i:Nat))):bg Tryz.prog 28 [.rsl fG bk] [] (.sl 10000) [.row 10000 32 1 fG bk []]:=by
 refine bg.intro (nt:=19) fJ mixed (by kernel_rfl) Tryz.func28 rfl rfl rfl rfl rfl rfl ?_;refine lp Nat (fun i=>[(8,.int .i64 (i:Nat)),(3,.sl 20000)]) (fun i=>[.row 20000 32 1 fG (bk.take i) []]) (fun i=>bk.length-i) (fun i=>i≤bk.length) 0 (Nat.zero_le _) ?_ ?_
 ·exact Qk [⟨3,30000,32,1,fG⟩] [(20000,30000)] rfl (aI (aI ⟨rfl,rfl⟩ (aI rfl trivial)) ⟨⟨rfl,nP⟩,trivial⟩)
 intro i hi;refine aI (fun q1=> ?_) (fun q1=> ?_)
 ·have hlt:i<bk.length:=by have:((i:Nat):Int)<(bk.length:Nat):=of_decide_eq_true q1;omega
  refine aI (show(0:Int)≤(i:Nat)∧((i:Nat):Int)<(bk.length:Nat) by omega) ?_;refine Or.inr (eI _ (eI _ (aI (y9 (elt (dflt fG) bk (i:Nat)) (hbk i hlt)) ?_)));refine aI (by show(bk.take i).length+1≤_;rw[List.length_take];omega) ?_;refine lX (i+1) hlt ?_ (by show bk.length-(i+1)<bk.length-i;omega);exact hd [(20000,16)] rfl (aI ⟨wB (by omega),rfl⟩ (aI rfl trivial)) ⟨⟨Ad hlt,nP⟩,trivial⟩
 have hge:bk.length≤i:=by have:¬((i:Nat):Int)<(bk.length:Nat):=of_decide_eq_false q1;omega
 refine fin [(10000,20000)] (aI rfl ?_);exact⟨⟨qN hge,nP⟩,trivial⟩
theorem zO:fD Tryz.prog 65=true:=by kernel_rfl
theorem Ot(xs:List (El bT))(hx:xs.length≤1048576):bg Tryz.prog 65 [.rsl bT xs] [] (.sl 10000) [.row 10000 57 3 bT xs []]:=by
 refine bg.OT (fun he c=> ?_) ?_
 ·subst he;refine bg.intro (nt:=8) fJ mixed zO Tryz.func65 rfl rfl rfl rfl rfl rfl ?_;refine aI (fun h1=> ?_) (fun h1=>by cases h1);refine Oz [⟨2,30000,57,3,bT⟩] [(10000,30000)] (aI rfl ?_);exact⟨⟨rfl,nP⟩,trivial⟩
 ·refine bg.intro (nt:=8) fJ mixed zO Tryz.func65 rfl rfl rfl rfl rfl rfl ?_;refine aI (fun h1=>by cases h1) (fun h1=> ?_);refine aI (by show 0+xs.length≤_;omega) ?_;refine fin [(10000,7)] (aI rfl ?_);exact⟨⟨rfl,nP⟩,trivial⟩
section
variable (bk:List (List ah))(xs:List ah)(sch:List Int)(ev:Int)
abbrev QK(bk:List (List ah))(xs:List ah)(sch:List Int)(ev:Int)(os:List (El bT))(p:SV):List Tok:=[.iG 10000 37 [.sl 10001,.sl 10002,.int .i64 ev,.int .i64 0,.sl 10003,.sl 10004,.raw (.slice none 0 0),p],
 .row 10001 32 1 fG bk [],.row 10002 2 1 (.int .i64) sch [],.row 10003 86 5 bf xs [],.row 10004 57 3 bT os []]
theorem keepW(os:List (El bT))(h:fO xs)(ho:os.length≤1048576):bg Tryz.prog 31 [.ptr 10000 0] (QK bk xs sch ev os (.raw (.slice none 0 0))) (.tup []) (QK bk xs sch ev os (.sl 10005)++[.row 10005 59 3 qg [((0:Int),xs,os)] []]):=by
 refine bg.intro (nt:=26) fJ mixed (by kernel_rfl) Tryz.func31 rfl rfl rfl rfl rfl rfl ?_;refine Or.inl (eI _ (eI _ (aI (bg.QE (bg.OX (r2:=.agg [.sl 10001]) (ts2:=[.row 10001 86 5 bf xs []]) fJ [32] Bu (y9 xs h) rfl rfl rfl)) (eI [_] (aI rfl ?_)))));refine Or.inl (eI _ (eI _ (aI (bg.QE (bg.OX (r2:=.sl 10001) (ts2:=[.row 10001 57 3 bT os []]) fJ [0] zO (Ot os ho) rfl rfl rfl)) (eI [_] (aI rfl ?_)))));refine aI (Nat.le_of_ble_eq_true rfl) ?_;refine aI (by kernel_rfl) ?_;refine fin [(10005,23)] (aI rfl ?_);exact⟨trivial,⟨rfl,rfl,⟨rfl,rfl⟩,⟨rfl,rfl⟩,rfl,rfl,rfl,rfl,trivial⟩,⟨rfl,nP⟩,⟨rfl,nP⟩,⟨rfl,nP⟩,⟨rfl,nP⟩,⟨rfl,nP⟩,trivial⟩
theorem K7:fD Tryz.prog 10=true:=by kernel_rfl
theorem KZ:(bif !ig (bk.map gN)then true else !eY (gN xs))= !(jh bk xs):=by
 unfold jh;cases ig (bk.map gN)<;>cases eY (gN xs)<;>rfl
theorem KY:(bif (bif !bn sch then true else decide (ev<1))then true else decide (50<ev))= !(bn sch&&cB ev 1 50):=by
 unfold cB
 by_cases h1:ev<1
 ·rw[decide_eq_true h1,decide_eq_false (show ¬1≤ev by omega)];cases bn sch<;>simp
 ·rw[decide_eq_false h1,decide_eq_true (show 1≤ev by omega)]
  by_cases h2:50<ev
  ·rw[decide_eq_true h2,decide_eq_false (show ¬ev≤50 by omega)];cases bn sch<;>simp
  ·rw[decide_eq_false h2,decide_eq_true (show ev≤50 by omega)];cases bn sch<;>simp
theorem MN(c:Int)(hc:c≠0)(h:qp (jh bk xs) (bn sch&&cB ev 1 50)=c):bg Tryz.prog 10 [.rsl fG bk,.agg [.rsl bf xs],.rsl (.int .i64) sch,.int .i64 ev] [] (.tup [.agg Fq,.int .i64 c]) []:=by
 refine bg.intro (nt:=59) fJ mixed K7 Tryz.func10 rfl rfl rfl rfl rfl rfl ?_;refine Or.inl (eI _ (aI (N7 bk) ?_));refine Or.inl (eI _ (aI (fun _=>Qn xs) ?_));refine aI (fun q1=> ?_) (fun q1=> ?_)
 ·have q2:(bif !ig (bk.map gN)then true else !eY (gN xs))=true:=q1;rw[KZ]at q2;have:c=1:=by revert q2;rw[←h];cases jh bk xs<;>simp[qp]
  subst this;refine fin [] (aI rfl ?_);exact trivial
 have q2:(bif !ig (bk.map gN)then true else !eY (gN xs))=false:=q1;rw[KZ]at q2;refine Or.inl (eI _ (aI (Li sch) ?_));refine aI (fun q3=> ?_) (fun q3=> ?_)
 ·have q4:(bif (bif !bn sch then true else decide (ev<1))then true else decide (50<ev))=true:=q3;rw[KY]at q4;have:c=2:=by revert q2 q4;rw[←h];cases jh bk xs<;>cases (bn sch&&cB ev 1 50)<;>simp[qp]
  subst this;refine fin [] (aI rfl ?_);exact trivial
 ·exfalso;have q4:(bif (bif !bn sch then true else decide (ev<1))then true else decide (50<ev))=false:=q3;rw[KY]at q4;refine hc ?_;revert q2 q4;rw[←h];cases jh bk xs<;>cases (bn sch&&cB ev 1 50)<;>simp[qp]
set_option maxHeartbeats 4000000 in
theorem OP(hv:jh bk xs=true)(hs:bn sch=true)(he:cB ev 1 50=true):bg Tryz.prog 10 [.rsl fG bk,.agg [.rsl bf xs],.rsl (.int .i64) sch,.int .i64 ev] [] (.tup [.agg [.sl 10000,.sl 10001,.int .i64 ev,.int .i64 0,.sl 10002,.sl 10003,.raw (.slice none 0 0),.sl 10004],.int .i64 0])
  [.row 10000 32 1 fG bk [],.row 10001 2 1 (.int .i64) sch [],.row 10002 86 5 bf xs [],.row 10003 57 3 bT (dx xs.length) [],.row 10004 59 3 qg [((0:Int),xs,dx xs.length)] []]:=by
 obtain⟨⟨b1,b2⟩,b3,b4⟩:=vZ hv;have b5:=rW hs;refine bg.intro (nt:=59) fJ mixed K7 Tryz.func10 rfl rfl rfl rfl rfl rfl ?_;refine Or.inl (eI _ (aI (N7 bk) ?_));refine Or.inl (eI _ (aI (fun _=>Qn xs) ?_));refine aI (fun q1=> ?_) (fun _=> ?_)
 ·exfalso;have q2:(bif !ig (bk.map gN)then true else !eY (gN xs))=true:=q1;rw[KZ,hv]at q2;cases q2
 refine Or.inl (eI _ (aI (Li sch) ?_));refine aI (fun q1=> ?_) (fun _=> ?_)
 ·exfalso;have q2:(bif (bif !bn sch then true else decide (ev<1))then true else decide (50<ev))=true:=q1;rw[KY,hs,he]at q2;cases q2
 refine Or.inr (eI _ (eI _ (aI (I7 bk (by omega) b2) ?_)));refine Or.inr (eI _ (eI _ (aI (J6 sch (by omega)) ?_)));refine Or.inr (eI _ (eI _ (aI (y9 xs b4) ?_)));refine aI (by kernel_rfl) ?_
 refine lp Nat (fun i=>[(46,.int .i64 (i:Nat))]) (fun i=>[.iG 8 37 Fq,.iG 10 37 [.sl 36,.sl 38,.int .i64 ev,.int .i64 0,.sl 41,.sl 20000,.raw (.slice none 0 0),.raw (.slice none 0 0)],
  .row 36 32 1 fG bk [],.row 38 2 1 (.int .i64) sch [],.row 41 86 5 bf xs [],.row 20000 57 3 bT (dx i) []]) (fun i=>xs.length-i) (fun i=>i≤xs.length) 0 (Nat.zero_le _) ?_ ?_
 ·exact Qk [⟨6000010,30000,57,3,bT⟩] [(20000,30000)] rfl (aI (aI ⟨rfl,rfl⟩ trivial) ⟨trivial,⟨rfl,rfl,⟨rfl,rfl⟩,⟨rfl,rfl⟩,rfl,rfl,rfl,rfl,trivial⟩,trivial,⟨rfl,rfl,⟨rfl,rfl⟩,⟨rfl,rfl⟩,rfl,rfl,rfl,rfl,trivial⟩,
   ⟨rfl,nP⟩,⟨rfl,nP⟩,⟨rfl,nP⟩,⟨rfl,nP⟩,trivial⟩)
 intro i hi;refine aI (fun q1=> ?_) (fun q1=> ?_)
 ·have hlt:i<xs.length:=by have:((i:Nat):Int)<(xs.length:Nat):=of_decide_eq_true q1;omega
  refine aI (show(dx i).length+1≤1073741824 by rw[kP];omega) ?_;refine lX (i+1) hlt ?_ (by show xs.length-(i+1)<xs.length-i;omega)
  exact hd [(20000,54)] rfl (aI ⟨wB (by omega),rfl⟩ trivial) ⟨trivial,⟨rfl,rfl,⟨rfl,rfl⟩,⟨rfl,rfl⟩,rfl,rfl,rfl,rfl,trivial⟩,trivial,⟨rfl,rfl,⟨rfl,rfl⟩,⟨rfl,rfl⟩,rfl,rfl,rfl,rfl,trivial⟩,
   ⟨rfl,nP⟩,⟨rfl,nP⟩,⟨rfl,nP⟩,⟨(xW i).symm,nP⟩,trivial⟩
 have hge:i=xs.length:=by have:¬((i:Nat):Int)<(xs.length:Nat):=of_decide_eq_false q1;omega
 subst hge;refine Or.inr (eI _ (eI _ (aI (keepW bk xs sch ev (dx xs.length) b4 (by rw[kP];omega)) ?_)));refine fin [(10000,36),(10001,38),(10002,41),(10003,20000),(10004,57)] (aI rfl ?_);exact⟨⟨rfl,nP⟩,⟨rfl,nP⟩,⟨rfl,nP⟩,⟨rfl,nP⟩,⟨rfl,nP⟩,trivial⟩
end
end Go.Proofs.YtjpaeopdljfjpaaGreat
