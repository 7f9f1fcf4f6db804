
/- A pool's memory: releasing, following, connecting; by the program and by the reference. -/
import Derived.Test.YtgiceoidjipgmaaGreatShort
import Derived.Test.YtgiceoidjipgmaaGreatQb
import Derived.Test.YtgiceoidjipgmaaGreatPoolC
set_option maxRecDepth 100000
set_option linter.unusedSimpArgs false
set_option linter.unusedVariables false
namespace Go.Proofs.YtgiceoidjipgmaaGreat
open Go Go.RowKit Go.Proofs Go.Tr
abbrev CY(m:bE)(us:List Value):List Tok:=[.bY 10000 41 [.sl 10001,.int .i64 m.2.1,.int .i64 m.2.2.1.1,.int .i64 m.2.2.1.2,.sl 10002],.row 10001 123 5 aL m.1 us,.row 10002 127 2 aR m.2.2.2 []]
theorem Oa(m:bE)(us:List Value)(a:Int)(ha:0≤a∧a<(m.1.length:Nat)):aC Tryz.prog 102 [.ptr 10000 0,.int .i64 a] (CY m us) (.tup []) (CY (tQ m a) []):=by
 refine aC.intro (nt:=19) aQ mixed (by kernel_rfl) Tryz.func102 rfl rfl rfl rfl rfl rfl ?_;refine aI ha ?_;refine aI (by kernel_rfl) ?_;refine fin [] (aI rfl ?_);exact⟨trivial,⟨rfl,⟨rfl,rfl⟩,⟨rfl,rfl⟩,⟨rfl,rfl⟩,rfl,trivial⟩,⟨rfl,nP⟩,⟨rfl,nP⟩,trivial⟩
theorem Ob(m:bE)(us:List Value)(a:Int)(ha:0≤a∧a<(m.1.length:Nat)):aC Tryz.prog 119 [.ptr 10000 0,.int .i64 a] (CY m us) (.tup []) (CY (tQ m a) []):=by
 refine aC.intro (nt:=19) aQ mixed (by kernel_rfl) Tryz.func119 rfl rfl rfl rfl rfl rfl ?_;refine aI ha ?_;refine aI (by kernel_rfl) ?_;refine fin [] (aI rfl ?_);exact⟨trivial,⟨rfl,⟨rfl,rfl⟩,⟨rfl,rfl⟩,⟨rfl,rfl⟩,rfl,trivial⟩,⟨rfl,nP⟩,⟨rfl,nP⟩,trivial⟩
abbrev Gt(s:Nat×bE×ay):List Tok:=[.bY 3 38 [.int .i64 s.2.2.1,.int .i64 s.2.2.2],.bY 4 38 [.int .i64 0,.int .i64 0]]++CY s.2.1 []
theorem Hy{σ:Type}(g0:Nat)(T:σ→List Tok):∀(s:σ) (K:List Tok→Prop) (cx:Cx) (β:Nat→Value) (w:World) (R:List dK),fP g0 (T s) K→Inv cx.w0 cx.F0 w ((T s).map (Tok.res cx β)++R)→∃rs',K rs'∧Inv cx.w0 cx.F0 w (rs'.map (Tok.res cx β)++R):=fun s K cx β w R h hI=>by
 obtain⟨l',h1,_,h3⟩:=iG h hI;exact⟨l',h1,h3⟩
theorem pK{xs:List ah}{x:ay}{b:Bool}(h:(bif x.1==2 then decide ((0:Int)<((bA (aj xs x.2)).length:Nat))else false)=b):d9 xs x=b:=by
 rw[←h];unfold d9;rw[show decide ((0:Int)<((bA (aj xs x.2)).length:Nat))=decide (0<(bA (aj xs x.2)).length) by rw[Bool.eq_iff_iff,decide_eq_true_eq,decide_eq_true_eq];omega];cases x.1==2<;>rfl
structure Dm(xs:List ah)(R:bE×ay)(s:Nat×bE×ay):Prop where
 bnd:qp s.2.1.1=s.1
 ok:lY xs s.2.1
 word:bH s.2.1.1 s.2.2=true
 eq:nZ s.1 s.2.1 s.2.2=R
theorem Ca{xs:List ah}{m:bE}(h:lY xs m){w:ay}(hw:bH m.1 w=true)(hb:qp m.1=0):d9 m.1 w=false:=by
 have:=(Dx hb h hw).2.2;exact this
theorem Dm.next{xs:List ah}{R:bE×ay}{k:Nat}{n:bE}{x:ay}(h:Dm xs R (k+1,n,x))(hg:d9 n.1 x=true):Dm xs R (k,tQ n x.2,(bA (aj n.1 x.2)).getD 0 (0,0)):=by
 have hm:lY xs n:=h.ok;have hb:qp n.1=k+1:=h.bnd;obtain⟨hin,hn,hl,hx⟩:=kP hm h.word hg;refine⟨?_,hm.rel hin.1 hin.2 hn,hx,?_⟩
 ·have hi:((x.2.toNat:Nat):Int)=x.2:=by have:0≤x.2:=hin.1;omega
  have:=EC (xs:=n.1) (i:=x.2.toNat) (by have:x.2<(n.1.length:Nat):=hin.2;omega) (by rw[hi];exact hl) (za n.2.1) rfl;show qp (n.1.set x.2.toNat (za n.2.1))=k;omega
 ·have:=h.eq;rw[show nZ ((k+1,n,x):Nat×bE×ay).1 n x=nZ (k+1) n x from rfl,nZ,hg]at this;exact this
theorem Dm.done{xs:List ah}{R:bE×ay}{k:Nat}{n:bE}{x:ay}(h:Dm xs R (k,n,x))(hg:d9 n.1 x=false):R=(n,x):=by
 have:=h.eq;cases k with
 |zero=>exact this.symm
 |succ k=>
  rw[show nZ ((k+1,n,x):Nat×bE×ay).1 n x=nZ (k+1) n x from rfl,nZ,hg]at this;exact this.symm
set_option maxHeartbeats 1000000 in
theorem Ny{xs:List ah}(m:bE)(us:List Value)(w:ay)(h:lY xs m)(hw:bH xs w=true):aC Tryz.prog 100 [.ptr 10000 0,vP w] (CY m us) (vP (fB m w).2) (CY (fB m w).1 []):=by
 refine aC.intro (nt:=39) aQ mixed (by kernel_rfl) Tryz.func100 rfl rfl rfl rfl rfl rfl ?_;refine P7 (Nat×bE×ay) (fun _=>[]) Gt (fun s=>s.1) (Dm xs (fB m w)) (qp m.1,m,w) (fun s=>fP 10001 (Gt s)) (Hy 10001 Gt) ⟨rfl,h,by rw[h.same.word];exact hw,rfl⟩ ?_ ?_
 ·exact Go.Tr.hd [] rfl trivial ⟨trivial,⟨⟨rfl,rfl⟩,⟨rfl,rfl⟩,trivial⟩,trivial,⟨⟨rfl,rfl⟩,⟨rfl,rfl⟩,trivial⟩,trivial,⟨rfl,⟨rfl,rfl⟩,⟨rfl,rfl⟩,⟨rfl,rfl⟩,rfl,trivial⟩,⟨rfl,nP⟩,⟨rfl,nP⟩,trivial⟩
 rintro⟨k,n,x⟩ hI;have hm:lY xs n:=hI.ok;have hx:bH n.1 x=true:=hI.word;have hin:=dD hx;refine aI (fun _=> ?_) (fun q=>absurd rfl q);intro us' _ hlen;have hlen:us'.length=n.1.length*5:=hlen;refine aI (fun q=>by cases q) (fun _=> ?_)
 conv=>whnf
 refine aI (fun _=>hin) ?_;refine aI (fun _=>uN hlen hin.1 hin.2) ?_;refine aI (by kernel_rfl) ?_;refine aI (fun q=> ?_) (fun q=> ?_)
 ·have hg:d9 n.1 x=true:=pK q;obtain⟨_,hn,hl,hx2⟩:=kP hm hx hg
  conv=>whnf
  refine aI hin ?_;refine aI (uN hlen hin.1 hin.2) ?_;refine aI (show(0:Int)≤0∧(0:Int)<((bA (aj n.1 x.2)).length:Nat) by omega) ?_;refine eI 10001 (aI ⟨⟨hin.1,hin.2,tZ hlen hin.1 hin.2 (by decide)⟩,Int.le_refl 0,(show(0:Int)<((bA (aj n.1 x.2)).length:Nat) by omega)⟩ ?_);refine aI (by kernel_rfl) ?_;refine Or.inr (eI _ (eI _ (aI (Oa n us' x.2 hin) ?_)));cases k with
  |zero=>
   exfalso;have hb:qp n.1=0:=hI.bnd;have:=Ca hm hx hb;rw[this]at hg;cases hg
  |succ k=>
   refine Cn (k,tQ n x.2,(bA (aj n.1 x.2)).getD 0 (0,0)) (hI.next hg) ?_ (show k<k+1 by omega);exact Go.Tr.hd [] rfl trivial ⟨trivial,⟨⟨rfl,rfl⟩,⟨rfl,rfl⟩,trivial⟩,trivial,⟨⟨rfl,rfl⟩,⟨rfl,rfl⟩,trivial⟩,trivial,⟨rfl,⟨rfl,rfl⟩,⟨rfl,rfl⟩,⟨rfl,rfl⟩,rfl,trivial⟩,⟨rfl,nP⟩,⟨rfl,nP⟩,trivial⟩
 ·have hg:d9 n.1 x=false:=pK q;have e:=hI.done hg;refine fin [] (aI ?_ ?_)
  ·rw[e];exact rfl
  ·rw[e];exact⟨trivial,⟨rfl,⟨rfl,rfl⟩,⟨rfl,rfl⟩,⟨rfl,rfl⟩,rfl,trivial⟩,⟨rfl,nP⟩,⟨rfl,nP⟩,trivial⟩
set_option maxHeartbeats 1000000 in
theorem Nz{xs:List ah}(m:bE)(us:List Value)(w:ay)(h:lY xs m)(hw:bH xs w=true):aC Tryz.prog 117 [.ptr 10000 0,vP w] (CY m us) (vP (fB m w).2) (CY (fB m w).1 []):=by
 refine aC.intro (nt:=38) aQ mixed (by kernel_rfl) Tryz.func117 rfl rfl rfl rfl rfl rfl ?_;refine P7 (Nat×bE×ay) (fun _=>[]) Gt (fun s=>s.1) (Dm xs (fB m w)) (qp m.1,m,w) (fun s=>fP 10001 (Gt s)) (Hy 10001 Gt) ⟨rfl,h,by rw[h.same.word];exact hw,rfl⟩ ?_ ?_
 ·exact Go.Tr.hd [] rfl trivial ⟨trivial,⟨⟨rfl,rfl⟩,⟨rfl,rfl⟩,trivial⟩,trivial,⟨⟨rfl,rfl⟩,⟨rfl,rfl⟩,trivial⟩,trivial,⟨rfl,⟨rfl,rfl⟩,⟨rfl,rfl⟩,⟨rfl,rfl⟩,rfl,trivial⟩,⟨rfl,nP⟩,⟨rfl,nP⟩,trivial⟩
 rintro⟨k,n,x⟩ hI;have hm:lY xs n:=hI.ok;have hx:bH n.1 x=true:=hI.word;have hin:=dD hx;refine aI (fun _=> ?_) (fun q=>absurd rfl q);intro us' _ hlen;have hlen:us'.length=n.1.length*5:=hlen;refine aI (fun q=>by cases q) (fun _=> ?_)
 conv=>whnf
 refine aI (fun _=>hin) ?_;refine aI (fun _=>uN hlen hin.1 hin.2) ?_;refine aI (by kernel_rfl) ?_;refine aI (fun q=> ?_) (fun q=> ?_)
 ·have hg:d9 n.1 x=true:=pK q;obtain⟨_,hn,hl,hx2⟩:=kP hm hx hg
  conv=>whnf
  refine aI hin ?_;refine aI (uN hlen hin.1 hin.2) ?_;refine aI (show(0:Int)≤0∧(0:Int)<((bA (aj n.1 x.2)).length:Nat) by omega) ?_;refine eI 10001 (aI ⟨⟨hin.1,hin.2,tZ hlen hin.1 hin.2 (by decide)⟩,Int.le_refl 0,(show(0:Int)<((bA (aj n.1 x.2)).length:Nat) by omega)⟩ ?_);refine Or.inr (eI _ (eI _ (aI (Ob n us' x.2 hin) ?_)));cases k with
  |zero=>
   exfalso;have hb:qp n.1=0:=hI.bnd;have:=Ca hm hx hb;rw[this]at hg;cases hg
  |succ k=>
   refine Cn (k,tQ n x.2,(bA (aj n.1 x.2)).getD 0 (0,0)) (hI.next hg) ?_ (show k<k+1 by omega);exact Go.Tr.hd [] rfl trivial ⟨trivial,⟨⟨rfl,rfl⟩,⟨rfl,rfl⟩,trivial⟩,trivial,⟨⟨rfl,rfl⟩,⟨rfl,rfl⟩,trivial⟩,trivial,⟨rfl,⟨rfl,rfl⟩,⟨rfl,rfl⟩,⟨rfl,rfl⟩,rfl,trivial⟩,⟨rfl,nP⟩,⟨rfl,nP⟩,trivial⟩
 ·have hg:d9 n.1 x=false:=pK q;have e:=hI.done hg;refine fin [] (aI ?_ ?_)
  ·rw[e];exact rfl
  ·rw[e];exact⟨trivial,⟨rfl,⟨rfl,rfl⟩,⟨rfl,rfl⟩,⟨rfl,rfl⟩,rfl,trivial⟩,⟨rfl,nP⟩,⟨rfl,nP⟩,trivial⟩
abbrev OG(g:Nat)(m:bE)(us:List Value):List Tok:=[.bY 10000 41 [.sl 10001,.int .i64 m.2.1,.int .i64 m.2.2.1.1,.int .i64 m.2.2.1.2,.sl g],.row 10001 123 5 aL m.1 us,.row g 127 2 aR m.2.2.2 []]
theorem PE(m:bE)(us:List Value)(a b:Int)(hr:m.2.2.2.length≤1000000):aC Tryz.prog 101 [.ptr 10000 0,.int .i64 a,.int .i64 b] (CY m us) (.tup []) (OG 10003 (I5 m a b) us):=by
 refine aC.intro (nt:=22) aQ mixed (by kernel_rfl) Tryz.func101 rfl rfl rfl rfl rfl rfl ?_;refine aI (by show m.2.2.2.length+1≤1073741824;omega) ?_;refine fin [(10003,19)] (aI rfl ?_);exact⟨trivial,⟨rfl,⟨rfl,rfl⟩,⟨rfl,rfl⟩,⟨rfl,rfl⟩,rfl,trivial⟩,⟨rfl,pR _⟩,⟨rfl,nP⟩,trivial⟩
theorem Px(a b:Int):aF Tryz.prog 138 [.int .i64 a,.int .i64 b] (.int .i64 (min a b)):=by
 refine aF.intro (nt:=10) aQ mixed (by kernel_rfl) Tryz.func138 rfl rfl rfl rfl rfl ?_;refine aI (fun q=> ?_) (fun q=> ?_)
 ·have q2:decide (a<b)=true:=q;simp only[decide_eq_true_eq]at q2;rw[show min a b=a by omega];exact⟨rfl,rfl⟩
 ·have q2:decide (a<b)=false:=q;simp only[decide_eq_false_iff_not]at q2;rw[show min a b=b by omega];exact⟨rfl,rfl⟩
theorem Pw(a b:Int):aF Tryz.prog 139 [.int .i64 a,.int .i64 b] (.int .i64 (max a b)):=by
 refine aF.intro (nt:=10) aQ mixed (by kernel_rfl) Tryz.func139 rfl rfl rfl rfl rfl ?_;refine aI (fun q=> ?_) (fun q=> ?_)
 ·exact⟨by have:b<a:=of_decide_eq_true q;omega,rfl⟩
 ·exact⟨by have:¬b<a:=of_decide_eq_false q;omega,rfl⟩
theorem PG(m:bE)(us:List Value)(a b:Int)(hr:m.2.2.2.length≤1000000):aC Tryz.prog 118 [.ptr 10000 0,.int .i64 a,.int .i64 b] (CY m us) (.tup []) (OG 10003 (I5 m a b) us):=by
 refine aC.intro (nt:=22) aQ mixed (by kernel_rfl) Tryz.func118 rfl rfl rfl rfl rfl rfl ?_;refine Or.inl (eI _ (aI (Px a b) ?_));refine Or.inl (eI _ (aI (Pw a b) ?_));refine aI (by show m.2.2.2.length+1≤1073741824;omega) ?_;refine aI (by kernel_rfl) ?_;refine fin [(10003,19)] (aI rfl ?_);exact⟨trivial,⟨rfl,⟨rfl,rfl⟩,⟨rfl,rfl⟩,⟨rfl,rfl⟩,rfl,trivial⟩,⟨rfl,pR _⟩,⟨rfl,nP⟩,trivial⟩
end Go.Proofs.YtgiceoidjipgmaaGreat
