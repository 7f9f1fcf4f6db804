
/- RecordLazy on both sides. Printed by gen_hr.py. -/
import Derived.Test.YtcjhkgfmklgikaaGreatShort
import Derived.Test.YtcjhkgfmklgikaaGreatHq
import Derived.Test.YtcjhkgfmklgikaaGreatHl
import Derived.Test.YtcjhkgfmklgikaaGreatUg
set_option maxHeartbeats 4000000
set_option maxRecDepth 100000
set_option linter.unusedSimpArgs false
set_option linter.unusedVariables false
namespace Go.Proofs.YtcjhkgfmklgikaaGreat
open Go Go.RowKit Go.Proofs Go.Tr
theorem QZ:bK Tryz.prog 20=true:=by kernel_rfl
theorem Q5:bK Tryz.prog 19=true:=by kernel_rfl
def Z0(s:NH):List Tok:=[.dD 9 30 [.sl 20000],.row 20000 111 5 aG s.2.2.1 [],.row 20001 88 5 rH s.2.2.2 []]
theorem C9{k:List (Int×Bool)}{z P:List aj}(T:Tr.Twin k z P)(hl:P.length≤1000000)(hk9:∀a:Int,0≤a→a<(P.length:Nat)→(ah P a).2.2.2.2.length≤1048576){p:aD}{c:Int}(e:jK P (xI true P)=(p,c)):aA Tryz.prog 44 [.ptr 10000 0,vP (0,0)] (tA P []) (.tup [vP p,.int .i64 c]) (tA P []):=by
 have h:aA Tryz.prog 44 [.ptr 10000 0,vP (0,0)] (tA P []) (.tup [vP (jK P (xI true P)).1,.int .i64 (jK P (xI true P)).2]) (tA P []):=
  aA.Ey (ts2:=[]) aJ [51,0] M8 (UO P (Gone k) T.Yh T.Kl hl hk9 (P.length+1) [] (0,0) .root (Nat.le_add_left _ _)) rfl rfl rfl
 rw[e]at h;exact h
section
variable (bk:List (List aj))(xs:List aj)(st:Int)
theorem Zx{c:Int}(hc:c≠0)(h:nT (lF bk xs) (dM []&&dS st 0 300)=c):aA Tryz.prog 20 [.rsl bO bk,.agg [.rsl aG xs],.int .i64 st] [] (.tup [.raw (.slice none 0 0),.int .i64 c]) []:=by
 refine aA.intro (nt:=71) aJ mixed QZ Tryz.func20 rfl rfl rfl rfl rfl rfl ?_;refine Or.inr (eI _ (eI _ (aI (aA.yh (a:=[.rsl bO bk,.agg [.rsl aG xs]]) (b:=[.int .i64 st]) (Uj bk xs [] st h hc)) ?_)));refine aI (fun q=> ?_) (fun q=> ?_)
 ·exact fin [] (aI rfl trivial)
 ·exfalso;have q2:(c !=0)=false:=q;simp at q2;exact hc q2
theorem Zy{c:Int}(hc:c≠0)(h:nT (lF bk xs) (dM []&&dS st 0 300)=c):aA Tryz.prog 19 [.rsl bO bk,.agg [.rsl aG xs],.int .i64 st] [] (.tup [.raw (.slice none 0 0),.int .i64 c]) []:=by
 refine aA.intro (nt:=53) aJ mixed Q5 Tryz.func19 rfl rfl rfl rfl rfl rfl ?_;have hE:=Lr bk xs [] st;rw[h]at hE;refine Or.inr (eI _ (eI _ (aI (aA.yh (a:=[.rsl bO bk,.ptr 10000 0]) (b:=[.int .i64 st]) hE) ?_)));refine aI (fun q=> ?_) (fun q=> ?_)
 ·exact fin [] (aI rfl trivial)
 ·exfalso;have q2:(c !=0)=false:=q;simp at q2;exact hc q2
theorem X0{c:Int}{out:List aT}(hs:dH xs)(h300:st≤300)(h:nT (lF bk xs) (dM []&&dS st 0 300)=0)(hc:c=0)(R:Ee bk st [] xs xs [] c out):aA Tryz.prog 20 [.rsl bO bk,.agg [.rsl aG xs],.int .i64 st] [] (.tup [.sl 10000,.int .i64 0]) [.row 10000 88 5 rH out []]:=by
 refine aA.intro (nt:=71) aJ mixed QZ Tryz.func20 rfl rfl rfl rfl rfl rfl ?_;refine Or.inr (eI _ (eI _ (aI (aA.yh (a:=[.rsl bO bk,.agg [.rsl aG xs]]) (b:=[.int .i64 st]) (RA bk xs [] st hs h)) ?_)));refine aI (fun q=>by cases q) (fun _=> ?_);refine lp NH (fun _=>[]) (ZY bk) (fun s=>301-s.2.2.2.length) (fun s=>Ee bk st s.1 s.2.1 s.2.2.1 s.2.2.2 c out) ([],xs,xs,[]) R ?_ ?_
 ·exact Tz [⟨2000020,30000,88,5,rH⟩] [(20000,2000020),(20001,30000)] rfl (aI trivial ⟨trivial,⟨rfl,rfl,trivial⟩,trivial,⟨rfl,rfl,rfl,trivial⟩,⟨rfl,nP⟩,rfl,⟨rfl,nP⟩,trivial⟩)
 rintro⟨kv,zs,ys,ev⟩ hR;have hR':Ee bk st kv zs ys ev c out:=hR;obtain⟨T,w,hl⟩:=hR'.ok;refine Or.inr (eI _ (eI _ (aI (Yg T (by omega) (fun a h0 h1=>by have:=(iN (w a h0 h1 id)).2;omega) [] bk) ?_)));refine aI (fun q1=> ?_) (fun q1=> ?_)
 ·have q2:(xI true zs).1=true:=by simpa using q1
  cases hR' with
  |done=>exact fin [(10000,20001)] (aI rfl ⟨⟨rfl,nP⟩,trivial⟩)
  |stuck _ _ _ hX=>rw[q2]at hX;cases hX
  |full _ _ _ hX=>rw[q2]at hX;cases hX
  |bad _ _ _ hX=>rw[q2]at hX;cases hX
  |over _ _ _ hX=>rw[q2]at hX;cases hX
  |next _ _ _ hX=>rw[q2]at hX;cases hX
 have q2:(xI true zs).1=false:=by simpa using q1
 cases hR' with
 |done _ _ _ hX=>rw[q2]at hX;cases hX
 |stuck=>cases hc
 |full=>cases hc
 |bad _ _ _ _ _ _ _ _ hc2=>exact absurd hc hc2
 |over _ _ _ _ _ _ _ _ hc2=>exact absurd hc hc2
 |next _ _ _ hX X nX e x' y' kv' f hI hS r=>
  refine Or.inl (eI _ (eI _ (aI (tV T (by omega) [] bk (kT T.wd true) nX) (eI [_] (aI rfl ?_)))));refine aI (by kernel_rfl) ?_;refine aI (fun q=>by cases q) (fun _=> ?_);refine aI (fun q4=> ?_) (fun q4=> ?_)
  ·exfalso;have q5:(((ev.length:Nat):Int)==st)=true:=q4;have q6:((ev.length:Nat):Int)=st:=by simpa using q5
   omega
  refine Or.inr (eI _ (eI _ (aI (hI []) ?_)));refine aI (fun q=>by cases q) (fun _=> ?_);refine bB (kv',x',y',ev++[f]) r ?_ ?_
  ·exact hd [(20000,67),(20001,1000067)] rfl trivial ⟨trivial,⟨rfl,rfl,trivial⟩,trivial,⟨rfl,rfl,rfl,trivial⟩,⟨rfl,nP⟩,rfl,⟨rfl,nP⟩,trivial⟩
  ·show 301-(ev++[f]).length<301-ev.length;rw[qA,qJ];omega
theorem Wh{c:Int}{out:List aT}(hs:dH xs)(h300:st≤300)(h:nT (lF bk xs) (dM []&&dS st 0 300)=0)(hc:c≠0)(R:Ee bk st [] xs xs [] c out):aA Tryz.prog 20 [.rsl bO bk,.agg [.rsl aG xs],.int .i64 st] [] (.tup [.raw (.slice none 0 0),.int .i64 c]) []:=by
 refine aA.intro (nt:=71) aJ mixed QZ Tryz.func20 rfl rfl rfl rfl rfl rfl ?_;refine Or.inr (eI _ (eI _ (aI (aA.yh (a:=[.rsl bO bk,.agg [.rsl aG xs]]) (b:=[.int .i64 st]) (RA bk xs [] st hs h)) ?_)));refine aI (fun q=>by cases q) (fun _=> ?_);refine lp NH (fun _=>[]) (ZY bk) (fun s=>301-s.2.2.2.length) (fun s=>Ee bk st s.1 s.2.1 s.2.2.1 s.2.2.2 c out) ([],xs,xs,[]) R ?_ ?_
 ·exact Tz [⟨2000020,30000,88,5,rH⟩] [(20000,2000020),(20001,30000)] rfl (aI trivial ⟨trivial,⟨rfl,rfl,trivial⟩,trivial,⟨rfl,rfl,rfl,trivial⟩,⟨rfl,nP⟩,rfl,⟨rfl,nP⟩,trivial⟩)
 rintro⟨kv,zs,ys,ev⟩ hR;have hR':Ee bk st kv zs ys ev c out:=hR;obtain⟨T,w,hl⟩:=hR'.ok;refine Or.inr (eI _ (eI _ (aI (Yg T (by omega) (fun a h0 h1=>by have:=(iN (w a h0 h1 id)).2;omega) [] bk) ?_)));refine aI (fun q1=> ?_) (fun q1=> ?_)
 ·have q2:(xI true zs).1=true:=by simpa using q1
  cases hR' with
  |done=>exact absurd rfl hc
  |stuck _ _ _ hX=>rw[q2]at hX;cases hX
  |full _ _ _ hX=>rw[q2]at hX;cases hX
  |bad _ _ _ hX=>rw[q2]at hX;cases hX
  |over _ _ _ hX=>rw[q2]at hX;cases hX
  |next _ _ _ hX=>rw[q2]at hX;cases hX
 have q2:(xI true zs).1=false:=by simpa using q1
 cases hR' with
 |done _ _ _ hX=>rw[q2]at hX;cases hX
 |stuck _ _ _ hX nX=>
  refine Or.inl (eI _ (eI _ (aI (Oq T (by omega) [] bk (kT T.wd true) nX) (eI [] (aI rfl ?_)))));refine aI (by kernel_rfl) ?_;refine aI (fun _=> ?_) (fun q3=>by cases q3);exact fin [] (aI rfl trivial)
 |full _ _ _ hX X nX e=>
  refine Or.inl (eI _ (eI _ (aI (tV T (by omega) [] bk (kT T.wd true) nX) (eI [_] (aI rfl ?_)))));refine aI (by kernel_rfl) ?_;refine aI (fun q=>by cases q) (fun _=> ?_);refine aI (fun _=> ?_) (fun q4=> ?_)
  ·exact fin [] (aI rfl trivial)
  ·exfalso;have q5:(((ev.length:Nat):Int)==st)=false:=q4;have q6:¬((ev.length:Nat):Int)=st:=by simpa using q5
   omega
 |bad _ _ _ hX X nX e c2 hc2 hI hS=>
  refine Or.inl (eI _ (eI _ (aI (tV T (by omega) [] bk (kT T.wd true) nX) (eI [_] (aI rfl ?_)))));refine aI (by kernel_rfl) ?_;refine aI (fun q=>by cases q) (fun _=> ?_);refine aI (fun q4=> ?_) (fun q4=> ?_)
  ·exfalso;have q5:(((ev.length:Nat):Int)==st)=true:=q4;have q6:((ev.length:Nat):Int)=st:=by simpa using q5
   omega
  refine Or.inr (eI _ (eI _ (aI (hI []) ?_)));refine aI (fun _=> ?_) (fun q6=> ?_)
  ·exact fin [] (aI rfl trivial)
  ·exfalso;have q7:(c !=0)=false:=q6;simp at q7;exact hc q7
 |over _ _ _ hX X nX e c2 hc2 x' y' kv' ev' hI hS=>
  refine Or.inl (eI _ (eI _ (aI (tV T (by omega) [] bk (kT T.wd true) nX) (eI [_] (aI rfl ?_)))));refine aI (by kernel_rfl) ?_;refine aI (fun q=>by cases q) (fun _=> ?_);refine aI (fun q4=> ?_) (fun q4=> ?_)
  ·exfalso;have q5:(((ev.length:Nat):Int)==st)=true:=q4;have q6:((ev.length:Nat):Int)=st:=by simpa using q5
   omega
  refine Or.inr (eI _ (eI _ (aI (hI []) ?_)));refine aI (fun _=> ?_) (fun q6=> ?_)
  ·exact fin [] (aI rfl trivial)
  ·exfalso;have q7:(c !=0)=false:=q6;simp at q7;exact hc q7
 |next _ _ _ hX X nX e x' y' kv' f hI hS r=>
  refine Or.inl (eI _ (eI _ (aI (tV T (by omega) [] bk (kT T.wd true) nX) (eI [_] (aI rfl ?_)))));refine aI (by kernel_rfl) ?_;refine aI (fun q=>by cases q) (fun _=> ?_);refine aI (fun q4=> ?_) (fun q4=> ?_)
  ·exfalso;have q5:(((ev.length:Nat):Int)==st)=true:=q4;have q6:((ev.length:Nat):Int)=st:=by simpa using q5
   omega
  refine Or.inr (eI _ (eI _ (aI (hI []) ?_)));refine aI (fun q=>by cases q) (fun _=> ?_);refine bB (kv',x',y',ev++[f]) r ?_ ?_
  ·exact hd [(20000,67),(20001,1000067)] rfl trivial ⟨trivial,⟨rfl,rfl,trivial⟩,trivial,⟨rfl,rfl,rfl,trivial⟩,⟨rfl,nP⟩,rfl,⟨rfl,nP⟩,trivial⟩
  ·show 301-(ev++[f]).length<301-ev.length;rw[qA,qJ];omega
theorem X3{c:Int}{out:List aT}(hs:dH xs)(h300:st≤300)(h:nT (lF bk xs) (dM []&&dS st 0 300)=0)(hc:c=0)(R:Ee bk st [] xs xs [] c out):aA Tryz.prog 19 [.rsl bO bk,.agg [.rsl aG xs],.int .i64 st] [] (.tup [.sl 10000,.int .i64 0]) [.row 10000 88 5 rH out []]:=by
 refine aA.intro (nt:=53) aJ mixed Q5 Tryz.func19 rfl rfl rfl rfl rfl rfl ?_;have hE:=Lr bk xs [] st;rw[h]at hE;refine Or.inr (eI _ (eI _ (aI (aA.yh (a:=[.rsl bO bk,.ptr 10000 0]) (b:=[.int .i64 st]) hE) ?_)));refine aI (fun q=>by cases q) (fun _=> ?_);refine Or.inr (eI _ (eI _ (aI (Nf xs hs) ?_)));refine lp NH (fun _=>[(10,.sl 20001)]) Z0 (fun s=>301-s.2.2.2.length) (fun s=>Ee bk st s.1 s.2.1 s.2.2.1 s.2.2.2 c out) ([],xs,xs,[]) R ?_ ?_
 ·exact hd [(20000,20),(20001,21)] rfl (aI rfl trivial) ⟨trivial,⟨rfl,trivial⟩,⟨rfl,nP⟩,⟨rfl,nP⟩,trivial⟩
 rintro⟨kv,zs,ys,ev⟩ hR;have hR':Ee bk st kv zs ys ev c out:=hR;obtain⟨T,w,hl⟩:=hR'.ok;have hlen:=T.len;have k9:=JK (wR T (by omega));have dY:=T.Zd true;have lX:=kT T.wd true;have nY:=T.QE lX;rw[←dY]at nY;cases hR' with
 |done _ _ _ hX=>
  rw[←dY]at hX;refine Or.inr (eI _ (eI _ (aI (C9 T (by omega) k9 (QM hX)) ?_)));refine aI (fun _=> ?_) (fun q=>by cases q);exact fin [(10000,20001)] (aI rfl ⟨⟨rfl,nP⟩,trivial⟩)
 |stuck=>cases hc
 |full=>cases hc
 |bad _ _ _ _ _ _ _ _ hc2=>exact absurd hc hc2
 |over _ _ _ _ _ _ _ _ hc2=>exact absurd hc hc2
 |next _ _ _ hX X nX e x' y' kv' f hI hS r=>
  rw[←dY]at hX nX;rw[nX]at nY;refine Or.inr (eI _ (eI _ (aI (C9 T (by omega) k9 (wI hX nY)) ?_)));refine aI (fun q=>by cases q) (fun _=> ?_);refine aI (fun q=>by cases q) (fun _=> ?_);refine aI (fun q3=> ?_) (fun _=> ?_)
  ·exfalso;have q4:decide (st≤((ev.length:Nat):Int))=true:=q3;simp only[qQ]at q4;omega
  refine Or.inr (eI _ (eI _ (aI (hS []) ?_)));refine aI (fun q=>by cases q) (fun _=> ?_);refine aI (show ev.length+1≤1073741824 by omega) ?_;refine bB (kv',x',y',ev++[f]) r ?_ ?_
  ·exact hd [(20000,43),(20001,52)] rfl (aI rfl trivial) ⟨trivial,⟨rfl,trivial⟩,⟨rfl,nP⟩,⟨rfl,nP⟩,trivial⟩
  ·show 301-(ev++[f]).length<301-ev.length;rw[qA,qJ];omega
theorem Wi{c:Int}{out:List aT}(hs:dH xs)(h300:st≤300)(h:nT (lF bk xs) (dM []&&dS st 0 300)=0)(hc:c≠0)(R:Ee bk st [] xs xs [] c out):aA Tryz.prog 19 [.rsl bO bk,.agg [.rsl aG xs],.int .i64 st] [] (.tup [.raw (.slice none 0 0),.int .i64 c]) []:=by
 refine aA.intro (nt:=53) aJ mixed Q5 Tryz.func19 rfl rfl rfl rfl rfl rfl ?_;have hE:=Lr bk xs [] st;rw[h]at hE;refine Or.inr (eI _ (eI _ (aI (aA.yh (a:=[.rsl bO bk,.ptr 10000 0]) (b:=[.int .i64 st]) hE) ?_)));refine aI (fun q=>by cases q) (fun _=> ?_);refine Or.inr (eI _ (eI _ (aI (Nf xs hs) ?_)));refine lp NH (fun _=>[(10,.sl 20001)]) Z0 (fun s=>301-s.2.2.2.length) (fun s=>Ee bk st s.1 s.2.1 s.2.2.1 s.2.2.2 c out) ([],xs,xs,[]) R ?_ ?_
 ·exact hd [(20000,20),(20001,21)] rfl (aI rfl trivial) ⟨trivial,⟨rfl,trivial⟩,⟨rfl,nP⟩,⟨rfl,nP⟩,trivial⟩
 rintro⟨kv,zs,ys,ev⟩ hR;have hR':Ee bk st kv zs ys ev c out:=hR;obtain⟨T,w,hl⟩:=hR'.ok;have hlen:=T.len;have k9:=JK (wR T (by omega));have dY:=T.Zd true;have lX:=kT T.wd true;have nY:=T.QE lX;rw[←dY]at nY;cases hR' with
 |done=>exact absurd rfl hc
 |stuck _ _ _ hX nX=>
  rw[←dY]at hX nX;rw[nX]at nY;refine Or.inr (eI _ (eI _ (aI (C9 T (by omega) k9 (Ou hX nY)) ?_)));refine aI (fun q=>by cases q) (fun _=> ?_);refine aI (fun _=> ?_) (fun q=>by cases q);exact fin [] (aI rfl trivial)
 |full _ _ _ hX X nX e=>
  rw[←dY]at hX nX;rw[nX]at nY;refine Or.inr (eI _ (eI _ (aI (C9 T (by omega) k9 (wI hX nY)) ?_)));refine aI (fun q=>by cases q) (fun _=> ?_);refine aI (fun q=>by cases q) (fun _=> ?_);refine aI (fun _=> ?_) (fun q3=> ?_)
  ·exact fin [] (aI rfl trivial)
  ·exfalso;have q4:decide (st≤((ev.length:Nat):Int))=false:=q3;simp only[qP]at q4;omega
 |bad _ _ _ hX X nX e c2 hc2 hI hS=>
  rw[←dY]at hX nX;rw[nX]at nY;refine Or.inr (eI _ (eI _ (aI (C9 T (by omega) k9 (wI hX nY)) ?_)));refine aI (fun q=>by cases q) (fun _=> ?_);refine aI (fun q=>by cases q) (fun _=> ?_);refine aI (fun q3=> ?_) (fun _=> ?_)
  ·exfalso;have q4:decide (st≤((ev.length:Nat):Int))=true:=q3;simp only[qQ]at q4;omega
  refine Or.inr (eI _ (eI _ (aI (hS []) ?_)));refine aI (fun _=> ?_) (fun q6=> ?_)
  ·exact fin [] (aI rfl trivial)
  ·exfalso;have q7:(c !=0)=false:=q6;simp at q7;exact hc q7
 |over _ _ _ hX X nX e c2 hc2 x' y' kv' ev' hI hS=>
  rw[←dY]at hX nX;rw[nX]at nY;refine Or.inr (eI _ (eI _ (aI (C9 T (by omega) k9 (wI hX nY)) ?_)));refine aI (fun q=>by cases q) (fun _=> ?_);refine aI (fun q=>by cases q) (fun _=> ?_);refine aI (fun q3=> ?_) (fun _=> ?_)
  ·exfalso;have q4:decide (st≤((ev.length:Nat):Int))=true:=q3;simp only[qQ]at q4;omega
  refine Or.inr (eI _ (eI _ (aI (hS []) ?_)));refine aI (fun _=> ?_) (fun q6=> ?_)
  ·exact fin [] (aI rfl trivial)
  ·exfalso;have q7:(c !=0)=false:=q6;simp at q7;exact hc q7
 |next _ _ _ hX X nX e x' y' kv' f hI hS r=>
  rw[←dY]at hX nX;rw[nX]at nY;refine Or.inr (eI _ (eI _ (aI (C9 T (by omega) k9 (wI hX nY)) ?_)));refine aI (fun q=>by cases q) (fun _=> ?_);refine aI (fun q=>by cases q) (fun _=> ?_);refine aI (fun q3=> ?_) (fun _=> ?_)
  ·exfalso;have q4:decide (st≤((ev.length:Nat):Int))=true:=q3;simp only[qQ]at q4;omega
  refine Or.inr (eI _ (eI _ (aI (hS []) ?_)));refine aI (fun q=>by cases q) (fun _=> ?_);refine aI (show ev.length+1≤1073741824 by omega) ?_;refine bB (kv',x',y',ev++[f]) r ?_ ?_
  ·exact hd [(20000,43),(20001,52)] rfl (aI rfl trivial) ⟨trivial,⟨rfl,trivial⟩,⟨rfl,nP⟩,⟨rfl,nP⟩,trivial⟩
  ·show 301-(ev++[f]).length<301-ev.length;rw[qA,qJ];omega
end
end Go.Proofs.YtcjhkgfmklgikaaGreat
