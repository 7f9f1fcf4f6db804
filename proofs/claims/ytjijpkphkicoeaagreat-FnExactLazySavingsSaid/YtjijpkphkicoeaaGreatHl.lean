
/- Lazy reductions: the reference's loop. Printed by gen_hl.py. -/
import Derived.Test.YtjijpkphkicoeaaGreatShort
import Derived.Test.YtjijpkphkicoeaaGreatHk
set_option linter.unusedSimpArgs false
set_option linter.unusedVariables false
set_option linter.unusedSectionVars false
namespace Go.Proofs.YtjijpkphkicoeaaGreat
open Go Go.RowKit Go.Proofs Go.Tr
theorem aO.lC{P:Program}{f:Nat}{a b:List SV}{e:U}{r:SV}(h:aO P f (a++.rsl e []::b) r):aO P f (a++.raw (.slice none 0 0)::b) r:=
 ⟨h.1,fun cx β w fr vs hI hd=>h.2 cx β w fr vs hI (Ae hd)⟩
theorem BU:bH Tryz.prog 66=true:=by kernel_rfl
def gLB(s:kY):List Tok:=[.bV 21 66 [.sl 20000,.sl 20001,.int .i64 (iF s.cu)],.row 20000 131 5 aD s.P [],.row 20001 2 1 (.int .i64) s.tr []]
theorem Kz{P:List aj}(h:bE P):∀a:Int,0≤a→a<(P.length:Nat)→(ah P a).2.2.2.2.length≤1048576:=fun a h0 _=>by
 have:=(h.2 a.toNat).2;rw[show((a.toNat:Nat):Int)=a by omega]at this;exact this
theorem Kg{A:List aj}{r:Bool×aF}(h:r.1=true):jI A r=((0,0),3):=by unfold jI;rw[h];rfl
theorem F5{A:List aj}{r:Bool×aF}(h:r.1=false)(n:fF A (au A r.2)=none):jI A r=((0,0),5):=by unfold jI xR;rw[h,n];rfl
theorem nS{A:List aj}{r:Bool×aF}{X:Int×Int}(h:r.1=false)(n:fF A (au A r.2)=some X):jI A r=(Xo X,0):=by unfold jI xR;rw[h,n];rfl
section
variable {P P':List aj}(er:P'=P)
include er
theorem vw{k:List (Int×Bool)}{z:List aj}(T:Tr.Twin k z P)(hl:P.length≤1000000)(hk9:∀a:Int,0≤a→a<(P.length:Nat)→(ah P a).2.2.2.2.length≤1048576)(pk:Int)(tr:List Int){p:aF}{c:Int}(e:jI P (nJ true P)=(p,c)):aA Tryz.prog 71 [.ptr 10000 0,vP (0,0)] (tB P' [] pk tr) (.tup [vP p,.int .i64 c]) (tB P' [] pk tr):=by
 have:=YQ T hl hk9 [] pk tr;rw[e]at this;rw[er];exact this
theorem VZ(sm:bE P)(al:aW P)(hl:P.length≤900000)(pk:Int)(tr:List Int):aA Tryz.prog 49 [.ptr 10000 0] (tB P' [] pk tr) (.tup []) (PS 10003 (dx P) [] pk tr):=by
 rw[er];exact Dv P [] pk tr sm hl al
theorem S9{f:Nat}{args:List SV}{r:SV}{pk:Int}{tr:List Int}(hS:aA Tryz.prog f args (tB P [] pk tr) r (tB P [] pk tr)):aA Tryz.prog f args (tB P' [] pk tr) r (tB P' [] pk tr):=by rw[er];exact hS
theorem IV{f:Nat}{args:List SV}{r:SV}{pk:Int}{tr:List Int}{ts:List Tok}(hS:aA Tryz.prog f args (tB P [] pk tr) r ts):aA Tryz.prog f args (tB P' [] pk tr) r ts:=by rw[er];exact hS
end
theorem OC{bk:List (List aj)}{xs:List aj}{sch:List Int}{st:Int}(h:mg (ku bk xs) (bY sch&&dX st 0 4000)=0):bE xs:=by
 obtain⟨hv,_,_⟩:=MN bk xs sch st h;unfold ku at hv;rw[qD]at hv;have nn:=BS hv.2;have hl2:=nn.l2;refine⟨by omega,fun i=> ?_⟩
 by_cases hi:i<xs.length
 ·have w:=nn.wf (i:Nat) (by omega) (by omega);have h1:=wf_data w;have h2:=(fu w).2;exact⟨by show(ah xs (i:Nat)).2.2.2.1.length≤1048576;omega,by show(ah xs (i:Nat)).2.2.2.2.length≤1048576;omega⟩
 ·rw[nO (by omega)];decide
section
variable (bk:List (List aj))(xs:List aj)(st:Int)
set_option maxRecDepth 100000 in
set_option maxHeartbeats 4000000 in
theorem Xh(hs:bE xs)(h:mg (ku bk xs) (bY []&&dX st 0 4000)=0){c:Int}{t:kY}(R:Fj true bk st (g0 xs) c t)(hc:c=0):aA Tryz.prog 66 [.rsl aR bk,.rp aR xs,.int .i64 st,.bool true] [] (.tup [.ptr 10000 0,.int .i64 0]) [.bV 10000 66 [.sl 10001,.sl 10002,.int .i64 (iF t.cu)],.row 10001 131 5 aD (dx (dU false t.P)) [],.row 10002 2 1 (.int .i64) t.tr []]:=by
 refine aA.intro (nt:=76) aH mixed BU Tryz.func66 rfl rfl rfl rfl rfl rfl ?_;have hA:=WL bk xs [] st;rw[h]at hA;refine Or.inl (eI _ (aI (aO.lC (a:=[.rsl aR bk,.rp aR xs]) (b:=[.int .i64 st]) hA) ?_));refine aI (fun q=>by cases q) (fun _=> ?_);refine Or.inr (eI _ (eI _ (aI (Cj xs hs) ?_)));refine lp kY (fun _=>[]) gLB (fun s=>4001-s.tr.length) (fun s=>Fj true bk st s c t) (g0 xs) R ?_ ?_
 ·exact Nt [⟨2000021,30000,2,1,(.int .i64)⟩] [(20000,1000021),(20001,30000)] rfl (aI trivial ⟨trivial,⟨rfl,rfl,⟨rfl,rfl⟩,trivial⟩,⟨rfl,nP⟩,⟨rfl,nP⟩,trivial⟩)
 intro s hR;have g:vI bk s:=hR.ok;obtain⟨⟨N1,rs1⟩,lp1⟩:=g.ref false;obtain⟨kp,zp,gg,TP,rg⟩:=rs1.tp;obtain⟨sm1,al1⟩:=rs1.small (by omega);have k9:=Kz sm1;have lt:=g.tr;have lP:=g.lp;refine aI (fun q1=> ?_) (fun q1=> ?_)
 ·have er:dU false s.P=dU false s.P:=rfl;have ep:dU false s.P=dx s.P:=by unfold dU;rw[show decide (1200<(s.P.length:Int))=true from q1];rfl
  obtain⟨sm,al⟩:=g.rs.small (by omega);have hP:=Dv s.P [] (iF s.cu) s.tr sm (by omega) al;rw[←ep]at hP;refine Or.inr (eI _ (eI _ (aI (hP) ?_)));cases hR with
  |done _ _ hX hQ=>
   refine aI (fun _=> ?_) (fun q=>by cases q);refine Or.inr (eI _ (eI _ (aI (vw er TP (by omega) k9 (iF t.cu) t.tr (Kg hQ)) ?_)));refine aI (fun _=> ?_) (fun q=>by cases q);refine Or.inr (eI _ (eI _ (aI (VZ er sm1 al1 (by omega) (iF t.cu) t.tr) ?_)));exact fin [(10000,21),(10001,57),(10002,20001)] (aI rfl ⟨trivial,⟨rfl,rfl,⟨rfl,rfl⟩,trivial⟩,⟨rfl,nP⟩,⟨rfl,nP⟩,trivial⟩)
  |stuck=>cases hc
  |full=>cases hc
  |bad _ _ _ _ _ _ _ _ _ _ hc2=>exact absurd hc hc2
  |next _ s2 _ hX hQ X Q nX nQ e l hI hS r=>
   refine aI (fun _=> ?_) (fun q=>by cases q);refine Or.inr (eI _ (eI _ (aI (vw er TP (by omega) k9 (iF s.cu) s.tr (nS hQ nQ)) ?_)));refine aI (fun q=>by cases q) (fun _=> ?_);refine aI (fun q=>by cases q) (fun _=> ?_);refine aI (fun q3=> ?_) (fun _=> ?_)
   ·exfalso;have q4:decide (st≤((s.tr.length:Nat):Int))=true:=q3;simp only[qQ]at q4;omega
   refine Or.inr (eI _ (eI _ (aI (IV er hS) ?_)));refine aI (fun q=>by cases q) (fun _=> ?_);refine aP s2 r ?_ ?_
   ·exact hd [(20000,72),(20001,1000072)] rfl trivial ⟨trivial,⟨rfl,rfl,⟨rfl,rfl⟩,trivial⟩,⟨rfl,nP⟩,⟨rfl,nP⟩,trivial⟩
   ·show 4001-s2.tr.length<4001-s.tr.length;omega
 ·have er:s.P=dU false s.P:=by unfold dU;rw[show decide (1200<(s.P.length:Int))=false from q1];rfl
  cases hR with
  |done _ _ hX hQ=>
   refine aI (fun _=> ?_) (fun q=>by cases q);refine Or.inr (eI _ (eI _ (aI (vw er TP (by omega) k9 (iF t.cu) t.tr (Kg hQ)) ?_)));refine aI (fun _=> ?_) (fun q=>by cases q);refine Or.inr (eI _ (eI _ (aI (VZ er sm1 al1 (by omega) (iF t.cu) t.tr) ?_)));exact fin [(10000,21),(10001,57),(10002,20001)] (aI rfl ⟨trivial,⟨rfl,rfl,⟨rfl,rfl⟩,trivial⟩,⟨rfl,nP⟩,⟨rfl,nP⟩,trivial⟩)
  |stuck=>cases hc
  |full=>cases hc
  |bad _ _ _ _ _ _ _ _ _ _ hc2=>exact absurd hc hc2
  |next _ s2 _ hX hQ X Q nX nQ e l hI hS r=>
   refine aI (fun _=> ?_) (fun q=>by cases q);refine Or.inr (eI _ (eI _ (aI (vw er TP (by omega) k9 (iF s.cu) s.tr (nS hQ nQ)) ?_)));refine aI (fun q=>by cases q) (fun _=> ?_);refine aI (fun q=>by cases q) (fun _=> ?_);refine aI (fun q3=> ?_) (fun _=> ?_)
   ·exfalso;have q4:decide (st≤((s.tr.length:Nat):Int))=true:=q3;simp only[qQ]at q4;omega
   refine Or.inr (eI _ (eI _ (aI (IV er hS) ?_)));refine aI (fun q=>by cases q) (fun _=> ?_);refine aP s2 r ?_ ?_
   ·exact hd [(20000,72),(20001,1000072)] rfl trivial ⟨trivial,⟨rfl,rfl,⟨rfl,rfl⟩,trivial⟩,⟨rfl,nP⟩,⟨rfl,nP⟩,trivial⟩
   ·show 4001-s2.tr.length<4001-s.tr.length;omega
set_option maxRecDepth 100000 in
set_option maxHeartbeats 4000000 in
theorem UC(hs:bE xs)(h:mg (ku bk xs) (bY []&&dX st 0 4000)=0){c:Int}{t:kY}(R:Fj true bk st (g0 xs) c t)(hc:c≠0):aA Tryz.prog 66 [.rsl aR bk,.rp aR xs,.int .i64 st,.bool true] [] (.tup [.raw (.pointer none),.int .i64 c]) []:=by
 refine aA.intro (nt:=76) aH mixed BU Tryz.func66 rfl rfl rfl rfl rfl rfl ?_;have hA:=WL bk xs [] st;rw[h]at hA;refine Or.inl (eI _ (aI (aO.lC (a:=[.rsl aR bk,.rp aR xs]) (b:=[.int .i64 st]) hA) ?_));refine aI (fun q=>by cases q) (fun _=> ?_);refine Or.inr (eI _ (eI _ (aI (Cj xs hs) ?_)));refine lp kY (fun _=>[]) gLB (fun s=>4001-s.tr.length) (fun s=>Fj true bk st s c t) (g0 xs) R ?_ ?_
 ·exact Nt [⟨2000021,30000,2,1,(.int .i64)⟩] [(20000,1000021),(20001,30000)] rfl (aI trivial ⟨trivial,⟨rfl,rfl,⟨rfl,rfl⟩,trivial⟩,⟨rfl,nP⟩,⟨rfl,nP⟩,trivial⟩)
 intro s hR;have g:vI bk s:=hR.ok;obtain⟨⟨N1,rs1⟩,lp1⟩:=g.ref false;obtain⟨kp,zp,gg,TP,rg⟩:=rs1.tp;obtain⟨sm1,al1⟩:=rs1.small (by omega);have k9:=Kz sm1;have lt:=g.tr;have lP:=g.lp;refine aI (fun q1=> ?_) (fun q1=> ?_)
 ·have er:dU false s.P=dU false s.P:=rfl;have ep:dU false s.P=dx s.P:=by unfold dU;rw[show decide (1200<(s.P.length:Int))=true from q1];rfl
  obtain⟨sm,al⟩:=g.rs.small (by omega);have hP:=Dv s.P [] (iF s.cu) s.tr sm (by omega) al;rw[←ep]at hP;refine Or.inr (eI _ (eI _ (aI (hP) ?_)));cases hR with
  |done=>exact absurd rfl hc
  |stuck _ _ hX hQ nX nQ=>
   refine aI (fun _=> ?_) (fun q=>by cases q);refine Or.inr (eI _ (eI _ (aI (vw er TP (by omega) k9 (iF t.cu) t.tr (F5 hQ nQ)) ?_)));refine aI (fun q=>by cases q) (fun _=> ?_);refine aI (fun _=> ?_) (fun q=>by cases q);exact fin [] (aI rfl trivial)
  |full _ _ hX hQ X Q nX nQ e=>
   refine aI (fun _=> ?_) (fun q=>by cases q);refine Or.inr (eI _ (eI _ (aI (vw er TP (by omega) k9 (iF t.cu) t.tr (nS hQ nQ)) ?_)));refine aI (fun q=>by cases q) (fun _=> ?_);refine aI (fun q=>by cases q) (fun _=> ?_);refine aI (fun _=> ?_) (fun q3=> ?_)
   ·exact fin [] (aI rfl trivial)
   ·exfalso;have q4:decide (st≤((t.tr.length:Nat):Int))=false:=q3;simp only[decide_eq_false_iff_not]at q4;omega
  |bad _ _ hX hQ X Q nX nQ e c2 hc2 hI hS=>
   refine aI (fun _=> ?_) (fun q=>by cases q);refine Or.inr (eI _ (eI _ (aI (vw er TP (by omega) k9 (iF t.cu) t.tr (nS hQ nQ)) ?_)));refine aI (fun q=>by cases q) (fun _=> ?_);refine aI (fun q=>by cases q) (fun _=> ?_);refine aI (fun q3=> ?_) (fun _=> ?_)
   ·exfalso;have q4:decide (st≤((t.tr.length:Nat):Int))=true:=q3;simp only[qQ]at q4;omega
   refine Or.inr (eI _ (eI _ (aI (S9 er hS) ?_)));refine aI (fun _=> ?_) (fun q6=> ?_)
   ·exact fin [] (aI rfl trivial)
   ·exfalso;have q7:(c !=0)=false:=q6;simp at q7;exact hc2 q7
  |next _ s2 _ hX hQ X Q nX nQ e l hI hS r=>
   refine aI (fun _=> ?_) (fun q=>by cases q);refine Or.inr (eI _ (eI _ (aI (vw er TP (by omega) k9 (iF s.cu) s.tr (nS hQ nQ)) ?_)));refine aI (fun q=>by cases q) (fun _=> ?_);refine aI (fun q=>by cases q) (fun _=> ?_);refine aI (fun q3=> ?_) (fun _=> ?_)
   ·exfalso;have q4:decide (st≤((s.tr.length:Nat):Int))=true:=q3;simp only[qQ]at q4;omega
   refine Or.inr (eI _ (eI _ (aI (IV er hS) ?_)));refine aI (fun q=>by cases q) (fun _=> ?_);refine aP s2 r ?_ ?_
   ·exact hd [(20000,72),(20001,1000072)] rfl trivial ⟨trivial,⟨rfl,rfl,⟨rfl,rfl⟩,trivial⟩,⟨rfl,nP⟩,⟨rfl,nP⟩,trivial⟩
   ·show 4001-s2.tr.length<4001-s.tr.length;omega
 ·have er:s.P=dU false s.P:=by unfold dU;rw[show decide (1200<(s.P.length:Int))=false from q1];rfl
  cases hR with
  |done=>exact absurd rfl hc
  |stuck _ _ hX hQ nX nQ=>
   refine aI (fun _=> ?_) (fun q=>by cases q);refine Or.inr (eI _ (eI _ (aI (vw er TP (by omega) k9 (iF t.cu) t.tr (F5 hQ nQ)) ?_)));refine aI (fun q=>by cases q) (fun _=> ?_);refine aI (fun _=> ?_) (fun q=>by cases q);exact fin [] (aI rfl trivial)
  |full _ _ hX hQ X Q nX nQ e=>
   refine aI (fun _=> ?_) (fun q=>by cases q);refine Or.inr (eI _ (eI _ (aI (vw er TP (by omega) k9 (iF t.cu) t.tr (nS hQ nQ)) ?_)));refine aI (fun q=>by cases q) (fun _=> ?_);refine aI (fun q=>by cases q) (fun _=> ?_);refine aI (fun _=> ?_) (fun q3=> ?_)
   ·exact fin [] (aI rfl trivial)
   ·exfalso;have q4:decide (st≤((t.tr.length:Nat):Int))=false:=q3;simp only[decide_eq_false_iff_not]at q4;omega
  |bad _ _ hX hQ X Q nX nQ e c2 hc2 hI hS=>
   refine aI (fun _=> ?_) (fun q=>by cases q);refine Or.inr (eI _ (eI _ (aI (vw er TP (by omega) k9 (iF t.cu) t.tr (nS hQ nQ)) ?_)));refine aI (fun q=>by cases q) (fun _=> ?_);refine aI (fun q=>by cases q) (fun _=> ?_);refine aI (fun q3=> ?_) (fun _=> ?_)
   ·exfalso;have q4:decide (st≤((t.tr.length:Nat):Int))=true:=q3;simp only[qQ]at q4;omega
   refine Or.inr (eI _ (eI _ (aI (S9 er hS) ?_)));refine aI (fun _=> ?_) (fun q6=> ?_)
   ·exact fin [] (aI rfl trivial)
   ·exfalso;have q7:(c !=0)=false:=q6;simp at q7;exact hc2 q7
  |next _ s2 _ hX hQ X Q nX nQ e l hI hS r=>
   refine aI (fun _=> ?_) (fun q=>by cases q);refine Or.inr (eI _ (eI _ (aI (vw er TP (by omega) k9 (iF s.cu) s.tr (nS hQ nQ)) ?_)));refine aI (fun q=>by cases q) (fun _=> ?_);refine aI (fun q=>by cases q) (fun _=> ?_);refine aI (fun q3=> ?_) (fun _=> ?_)
   ·exfalso;have q4:decide (st≤((s.tr.length:Nat):Int))=true:=q3;simp only[qQ]at q4;omega
   refine Or.inr (eI _ (eI _ (aI (IV er hS) ?_)));refine aI (fun q=>by cases q) (fun _=> ?_);refine aP s2 r ?_ ?_
   ·exact hd [(20000,72),(20001,1000072)] rfl trivial ⟨trivial,⟨rfl,rfl,⟨rfl,rfl⟩,trivial⟩,⟨rfl,nP⟩,⟨rfl,nP⟩,trivial⟩
   ·show 4001-s2.tr.length<4001-s.tr.length;omega
end
end Go.Proofs.YtjijpkphkicoeaaGreat
