
/- ReduceRounds on both sides. Printed by gen_yw.py. -/
import Derived.Test.YtcjhkgfmklgikaaGreatShort
import Derived.Test.YtcjhkgfmklgikaaGreatYv
import Derived.Test.YtcjhkgfmklgikaaGreatHk
import Derived.Test.YtcjhkgfmklgikaaGreatYr
set_option maxHeartbeats 4000000
set_option maxRecDepth 100000
set_option linter.unusedSimpArgs false
set_option linter.unusedVariables false
namespace Go.Tr
open Go Go.RowKit
theorem Twin.Zbj{kv:List (Int×Bool)}{xs ys:List aj}(T:Twin kv xs ys):Go.Proofs.YtcjhkgfmklgikaaGreat.V9 xs kv=mI ys:=T.pack
end Go.Tr
namespace Go.Proofs.YtcjhkgfmklgikaaGreat
open Go Go.RowKit Go.Proofs Go.Tr
theorem ZaJ:bK Tryz.prog 10=true:=by kernel_rfl
theorem ZaK:bK Tryz.prog 7=true:=by kernel_rfl
abbrev q0(xs:List aj):QSt:=⟨[],xs,xs,List.replicate 7 0,[],(xs.length:Int)⟩
def gRO(bk:List (List aj))(xs:List aj)(cu:List Int)(s:QSt):List Tok:=[.dD 23 71 [.ptr 20000 0,.sl 4000023,.sl 20003,.sl 5000023,.sl 30001],.dD 20000 78 [.sl 20001,.rsl bO bk,.mp 20002],.row 20001 111 5 aG s.xs [],.map 20002 .bool s.kv,.row 4000023 2 1 (.int .i64) s.cn [],.row 20003 2 1 (.int .i64) s.tr [],.row 5000023 2 1 (.int .i64) cu [],.row 30001 2 1 (.int .i64) [] [],.dD 4 30 [.rsl aG xs],.dD 6 30 [.raw (.slice none 0 0)]]
def gRI(bk:List (List aj))(xs:List aj)(cu:List Int)(l:List (Int×Int))(s:QSt):List Tok:=[.dD 23 71 [.ptr 60 0,.sl 4000023,.sl 21003,.sl 5000023,.sl 30001],.dD 60 78 [.sl 21001,.rsl bO bk,.mp 2000060],.row 21001 111 5 aG s.xs [],.map 2000060 .bool s.kv,.row 4000023 2 1 (.int .i64) s.cn [],.row 21003 2 1 (.int .i64) s.tr [],.row 5000023 2 1 (.int .i64) cu [],.row 30001 2 1 (.int .i64) [] [],.dD 4 30 [.rsl aG xs],.dD 6 30 [.raw (.slice none 0 0)],.row 64 62 2 aR l []]
def gRS(xs:List aj)(s:QSt):List Tok:=[.dD 22 56 [.sl 20000,.sl 20001,.int .i64 s.pk],.row 20000 111 5 aG s.Y [],.row 20001 2 1 (.int .i64) s.tr [],.dD 4 30 [.rsl aG xs],.dD 6 30 [.raw (.slice none 0 0)]]
def gRJ(xs:List aj)(l:List (Int×Int))(s:QSt):List Tok:=[.dD 22 56 [.sl 21000,.sl 21001,.int .i64 s.pk],.row 21000 111 5 aG s.Y [],.row 21001 2 1 (.int .i64) s.tr [],.row 30 62 2 aR l [],.dD 4 30 [.rsl aG xs],.dD 6 30 [.raw (.slice none 0 0)]]
section
variable (bk:List (List aj))(xs:List aj)(st:Int)
theorem Zbu{c:Int}(hc:c≠0)(h:nT (lF bk xs) (dM []&&dS st 0 4000)=c):aA Tryz.prog 10 [.rsl bO bk,.agg [.rsl aG xs],.int .i64 st] [] (.tup [.agg [.raw (.slice none 0 0)],.raw (.slice none 0 0),.int .i64 0,.int .i64 c]) []:=by
 refine aA.intro (nt:=114) aJ mixed ZaJ Tryz.func10 rfl rfl rfl rfl rfl rfl ?_;refine Or.inr (eI _ (eI _ (aI (aA.yh (a:=[.rsl bO bk,.agg [.rsl aG xs]]) (b:=[.int .i64 st]) (Zbs bk xs [] st h hc)) ?_)));refine aI (fun q=> ?_) (fun q=> ?_)
 ·exact fin [] (aI rfl trivial)
 ·exfalso;have q2:(c !=0)=false:=q;simp at q2;exact hc q2
theorem Zbv{c:Int}(hc:c≠0)(h:nT (lF bk xs) (dM []&&dS st 0 4000)=c):aA Tryz.prog 7 [.rsl bO bk,.agg [.rsl aG xs],.int .i64 st] [] (.tup [.agg [.raw (.slice none 0 0)],.raw (.slice none 0 0),.int .i64 0,.int .i64 c]) []:=by
 refine aA.intro (nt:=74) aJ mixed ZaK Tryz.func7 rfl rfl rfl rfl rfl rfl ?_;have hK:=ZbE bk xs [] st;rw[h]at hK;refine Or.inr (eI _ (eI _ (aI (aA.yh (a:=[.rsl bO bk,.ptr 10000 0]) (b:=[.int .i64 st]) hK) ?_)));refine aI (fun q=> ?_) (fun q=> ?_)
 ·exact fin [] (aI rfl trivial)
 ·exfalso;have q2:(c !=0)=false:=q;simp at q2;exact hc q2
theorem ZbM(hs:dH xs)(h:nT (lF bk xs) (dM []&&dS st 0 4000)=0){c:Int}{t:QSt}{m:Nat}(R:OTo bk st (q0 xs) 0 c t m)(hc:c=0):aA Tryz.prog 10 [.rsl bO bk,.agg [.rsl aG xs],.int .i64 st] [] (.tup [.agg [.sl 10000],.sl 10001,.int .i64 (m:Nat),.int .i64 0]) [.row 10000 111 5 aG (mI t.Y) [],.row 10001 2 1 (.int .i64) t.cn []]:=by
 refine aA.intro (nt:=114) aJ mixed ZaJ Tryz.func10 rfl rfl rfl rfl rfl rfl ?_;refine Or.inr (eI _ (eI _ (aI (aA.yh (a:=[.rsl bO bk,.agg [.rsl aG xs]]) (b:=[.int .i64 st]) (Zbm bk xs [] st hs h)) ?_)));refine aI (fun q=>by cases q) (fun _=> ?_);have hst:=(jS (Zar bk xs [] st h).2.2).2;generalize hcu:[(xs.length:Int)]=cu;refine lp (QSt×Nat) (fun s=>[(12,.int .i64 (s.2:Nat))]) (fun s=>gRO bk xs cu s.1) (fun s=>4001-s.1.tr.length) (fun s=>OTo bk st s.1 s.2 c t m) (q0 xs,0) R ?_ ?_
 ·subst hcu;exact Tz [⟨3000023,30000,2,1,(.int .i64)⟩,⟨5000023,30001,2,1,(.int .i64)⟩] [(20000,1000023),(20001,2000023),(20002,3000023),(20003,30000)] rfl (aI (aI (aI rfl rfl) trivial) (by repeat' (first|exact trivial|exact rfl|exact nP|constructor)))
 rintro⟨s0,k⟩ hR;have hR':OTo bk st s0 k c t m:=hR;have g:=hR'.ok;obtain⟨l,hl⟩:∃l,l=rPr s0:=⟨_,rfl⟩;have hlx:=g.lx;have htr:=g.tr;have hA:=Zbp s0.xs [] bk s0.kv s0.cn s0.tr cu [] (by omega) (WS g.wx);rw[g.ZaF.1]at hA;have hpl:(kH s0.Y).length=l.length:=by rw[hl];exact g.ZaF.2
 refine Or.inr (eI _ (eI _ (aI (hA) ?_)));refine aI (fun q1=> ?_) (fun q1=> ?_)
 ·have q2:((((kH s0.Y).length:Nat):Int)==0)=true:=q1;have hz:(kH s0.Y).length=0:=by simpa using q2
  cases hR' with
  |done _ _ _ _=>
   have hr:=Yz t.xs [] bk t.kv (U8 g.tw) (by omega);rw[g.tw.Zbj]at hr;refine Or.inr (eI _ (eI _ (aI (hr) ?_)));refine aI (by kernel_rfl) ?_;refine fin [(10000,39),(10001,4000023)] (aI rfl ?_);exact⟨⟨rfl,nP⟩,⟨rfl,nP⟩,trivial⟩
  |full _ _ _ h=>rw[←hl]at h;omega
  |bad _ _ _ _ h=>rw[←hl]at h;omega
  |next _ _ _ _ h=>rw[←hl]at h;omega
 have q2:((((kH s0.Y).length:Nat):Int)==0)=false:=q1;have hz:¬(((kH s0.Y).length:Nat):Int)=0:=by simpa using q2
 refine Or.inr (eI _ (eI _ (aI (ZbA s0.xs [] bk s0.kv s0.cn s0.tr cu []) ?_)));have hlp:l.length≤(mI s0.Y).length:=by rw[hl];exact Yx _
 have hll:=g.live
 have ew:IntKind.i64.wrap (((s0.tr.length:Nat):Int)+(((kH s0.Y).length:Nat):Int))=((s0.tr.length:Nat):Int)+(l.length:Nat):=by
  rw[hpl];have:l.length≤600:=by omega
  exact qO _ (by omega)
 refine aI (fun q3=> ?_) (fun q3=> ?_)
 ·have q4:decide (st<IntKind.i64.wrap (((s0.tr.length:Nat):Int)+(((kH s0.Y).length:Nat):Int)))=true:=q3;rw[ew,qQ]at q4;cases hR' with
  |done _ _ _ h=>rw[←hl]at h;omega
  |full=>cases hc
  |bad _ _ _ _ _ e=>rw[←hl]at e;omega
  |next _ _ _ _ _ e=>rw[←hl]at e;omega
 have q4:decide (st<IntKind.i64.wrap (((s0.tr.length:Nat):Int)+(((kH s0.Y).length:Nat):Int)))=false:=q3;rw[ew,qP]at q4;have hr:=Yz s0.xs [] bk s0.kv (U8 g.tw) (by omega);rw[g.tw.Zbj]at hr;have F:=g.rnd;have sm:dH (mI s0.Y):=wR F.tw (by show(mI s0.Y).length≤_;omega);refine Or.inr (eI _ (eI _ (aI (hr) ?_)));refine Or.inr (eI _ (eI _ (aI (Zbb (mI s0.Y) bk sm) ?_)));have hA2:=Zbp (mI s0.Y) [] bk [] s0.cn s0.tr cu [] (by omega) (WS F.wx);rw[show WU (mI s0.Y) []=l from by rw[hl];exact F.tw.acts]at hA2
 refine Or.inr (eI _ (eI _ (aI (hA2) ?_)));cases hR' with
 |done _ _ _ h=>rw[←hl]at h;omega
 |full=>cases hc
 |bad _ _ _ _ _ _ _ hc2=>exact absurd hc hc2
 |next _ s2 _ _ _ _ I hl2 hk2 r=>
  rw[←hl]at I;refine lp (Nat×QSt) (fun s=>[(66,.int .i64 (s.1:Nat))]) (fun s=>gRI bk xs cu l s.2) (fun s=>l.length-s.1) (fun s=>s.1≤l.length∧ITo bk (l.drop s.1) s.2 0 s2) (0,rnd s0) ⟨Nat.zero_le _,I⟩ ?_ ?_
  ·exact hd [(21001,1000060),(21003,20003)] rfl (aI (aI rfl rfl) trivial) (by repeat' (first|exact trivial|exact rfl|exact nP|constructor))
  rintro⟨i,s⟩ ⟨hi,J⟩;have hi':i≤l.length:=hi;have J':ITo bk (l.drop i) s 0 s2:=J;have gs:=J'.ok;have hlx:=gs.lx;have htr:=gs.tr;refine aI (fun q3=> ?_) (fun q3=> ?_)
  ·have hlt:i<l.length:=ltU q3;have eD:=Vu (0,0) hlt;rw[eD]at J';have eP:elt (dflt aR) l ((i:Nat):Int)=l.getD i (0,0):=rfl;refine aI (show 0≤((i:Nat):Int)∧((i:Nat):Int)<(l.length:Nat) by omega) ?_;cases J' with
   |bad _ _ _ _ _ _ hc3=>exact absurd rfl hc3
   |next _ _ _ s3 g iX k3 hk3 cX eT eC hI hS r=>
    rw[←eP]at iX hI cX;have hC:=Cc s.xs _ iX.1 iX.2;rw[cX]at hC;have hn:=Zae (tr:=s.tr) (by omega);rw[←gs.cn]at hn;have hcn:=ZaA hn hk3;have hcb:=Zaz hn hk3
    conv=>whnf
    refine Or.inr (eI _ (eI _ (aI (aA.o9 aJ [51,0] Ap hC rfl) ?_)))
    conv=>whnf
    refine aI (by kernel_rfl) ?_
    conv=>whnf
    refine Or.inr (eI _ (eI _ (aI (hI) ?_)))
    conv=>whnf
    refine aI (by kernel_rfl) ?_
    conv=>whnf
    refine aI (fun q=>by cases q) (fun _=> ?_)
    conv=>whnf
    refine aI hcb ?_
    conv=>whnf
    refine aI hcb ?_
    conv=>whnf
    refine aI (show s.tr.length+1≤1073741824 by omega) ?_
    conv=>whnf
    refine bB (i+1,s3) ⟨hlt,r⟩ ?_ ?_
    ·refine hd [(21001,86),(21003,108)] rfl (aI (aI (eB (by omega)) rfl) trivial) ?_
     conv=>whnf
     refine⟨trivial,⟨rfl,rfl,rfl,rfl,rfl,trivial⟩,trivial,⟨rfl,rfl,rfl,trivial⟩,⟨rfl,nP⟩,rfl,⟨?_,nP⟩,⟨?_,nP⟩,⟨rfl,nP⟩,⟨rfl,nP⟩,trivial,⟨rfl,trivial⟩,trivial,⟨rfl,trivial⟩,⟨rfl,nP⟩,trivial⟩
     ·show s.cn.set (IntKind.i64.wrap (k3-1)).toNat (IntKind.i64.wrap (elt 0 s.cn (IntKind.i64.wrap (k3-1))+1))=s3.cn;rw[eC];exact hcn
     ·exact eT.symm
    ·show l.length-(i+1)<l.length-i;omega
  ·have hge:l.length≤i:=geU q3;rw[List.drop_of_length_le hge]at J';cases J' with
   |done _ g2=>
    refine bB (s2,k+1) r ?_ ?_
    ·refine hd [(20000,60),(20001,21001),(20002,2000060),(20003,21003)] rfl (aI (aI (eB (by show k<1000000000;omega)) rfl) trivial) ?_
     conv=>whnf
     exact⟨trivial,⟨rfl,rfl,rfl,rfl,rfl,trivial⟩,trivial,⟨rfl,rfl,rfl,trivial⟩,⟨rfl,nP⟩,rfl,⟨rfl,nP⟩,⟨rfl,nP⟩,⟨rfl,nP⟩,⟨rfl,nP⟩,trivial,⟨rfl,trivial⟩,trivial,⟨rfl,trivial⟩,trivial⟩
    ·show 4001-s2.tr.length<4001-s0.tr.length;omega
theorem Zbw(hs:dH xs)(h:nT (lF bk xs) (dM []&&dS st 0 4000)=0){c:Int}{t:QSt}{m:Nat}(R:OTo bk st (q0 xs) 0 c t m)(hc:c≠0):aA Tryz.prog 10 [.rsl bO bk,.agg [.rsl aG xs],.int .i64 st] [] (.tup [.agg [.raw (.slice none 0 0)],.raw (.slice none 0 0),.int .i64 0,.int .i64 c]) []:=by
 refine aA.intro (nt:=114) aJ mixed ZaJ Tryz.func10 rfl rfl rfl rfl rfl rfl ?_;refine Or.inr (eI _ (eI _ (aI (aA.yh (a:=[.rsl bO bk,.agg [.rsl aG xs]]) (b:=[.int .i64 st]) (Zbm bk xs [] st hs h)) ?_)));refine aI (fun q=>by cases q) (fun _=> ?_);have hst:=(jS (Zar bk xs [] st h).2.2).2;generalize hcu:[(xs.length:Int)]=cu;refine lp (QSt×Nat) (fun s=>[(12,.int .i64 (s.2:Nat))]) (fun s=>gRO bk xs cu s.1) (fun s=>4001-s.1.tr.length) (fun s=>OTo bk st s.1 s.2 c t m) (q0 xs,0) R ?_ ?_
 ·subst hcu;exact Tz [⟨3000023,30000,2,1,(.int .i64)⟩,⟨5000023,30001,2,1,(.int .i64)⟩] [(20000,1000023),(20001,2000023),(20002,3000023),(20003,30000)] rfl (aI (aI (aI rfl rfl) trivial) (by repeat' (first|exact trivial|exact rfl|exact nP|constructor)))
 rintro⟨s0,k⟩ hR;have hR':OTo bk st s0 k c t m:=hR;have g:=hR'.ok;obtain⟨l,hl⟩:∃l,l=rPr s0:=⟨_,rfl⟩;have hlx:=g.lx;have htr:=g.tr;have hA:=Zbp s0.xs [] bk s0.kv s0.cn s0.tr cu [] (by omega) (WS g.wx);rw[g.ZaF.1]at hA;have hpl:(kH s0.Y).length=l.length:=by rw[hl];exact g.ZaF.2
 refine Or.inr (eI _ (eI _ (aI (hA) ?_)));refine aI (fun q1=> ?_) (fun q1=> ?_)
 ·have q2:((((kH s0.Y).length:Nat):Int)==0)=true:=q1;have hz:(kH s0.Y).length=0:=by simpa using q2
  cases hR' with
  |done=>exact absurd rfl hc
  |full _ _ _ h=>rw[←hl]at h;omega
  |bad _ _ _ _ h=>rw[←hl]at h;omega
  |next _ _ _ _ h=>rw[←hl]at h;omega
 have q2:((((kH s0.Y).length:Nat):Int)==0)=false:=q1;have hz:¬(((kH s0.Y).length:Nat):Int)=0:=by simpa using q2
 refine Or.inr (eI _ (eI _ (aI (ZbA s0.xs [] bk s0.kv s0.cn s0.tr cu []) ?_)));have hlp:l.length≤(mI s0.Y).length:=by rw[hl];exact Yx _
 have hll:=g.live
 have ew:IntKind.i64.wrap (((s0.tr.length:Nat):Int)+(((kH s0.Y).length:Nat):Int))=((s0.tr.length:Nat):Int)+(l.length:Nat):=by
  rw[hpl];have:l.length≤600:=by omega
  exact qO _ (by omega)
 refine aI (fun q3=> ?_) (fun q3=> ?_)
 ·have q4:decide (st<IntKind.i64.wrap (((s0.tr.length:Nat):Int)+(((kH s0.Y).length:Nat):Int)))=true:=q3;rw[ew,qQ]at q4;cases hR' with
  |done _ _ _ h=>rw[←hl]at h;omega
  |full=>exact fin [] (aI rfl trivial)
  |bad _ _ _ _ _ e=>rw[←hl]at e;omega
  |next _ _ _ _ _ e=>rw[←hl]at e;omega
 have q4:decide (st<IntKind.i64.wrap (((s0.tr.length:Nat):Int)+(((kH s0.Y).length:Nat):Int)))=false:=q3;rw[ew,qP]at q4;have hr:=Yz s0.xs [] bk s0.kv (U8 g.tw) (by omega);rw[g.tw.Zbj]at hr;have F:=g.rnd;have sm:dH (mI s0.Y):=wR F.tw (by show(mI s0.Y).length≤_;omega);refine Or.inr (eI _ (eI _ (aI (hr) ?_)));refine Or.inr (eI _ (eI _ (aI (Zbb (mI s0.Y) bk sm) ?_)));have hA2:=Zbp (mI s0.Y) [] bk [] s0.cn s0.tr cu [] (by omega) (WS F.wx);rw[show WU (mI s0.Y) []=l from by rw[hl];exact F.tw.acts]at hA2
 refine Or.inr (eI _ (eI _ (aI (hA2) ?_)));cases hR' with
 |done _ _ _ h=>rw[←hl]at h;omega
 |full _ _ _ _ e=>rw[←hl]at e;omega
 |bad _ _ _ _ _ _ _ hc2 I=>
  rw[←hl]at I;refine lp (Nat×QSt) (fun s=>[(66,.int .i64 (s.1:Nat))]) (fun s=>gRI bk xs cu l s.2) (fun s=>l.length-s.1) (fun s=>s.1≤l.length∧ITo bk (l.drop s.1) s.2 c t) (0,rnd s0) ⟨Nat.zero_le _,I⟩ ?_ ?_
  ·exact hd [(21001,1000060),(21003,20003)] rfl (aI (aI rfl rfl) trivial) (by repeat' (first|exact trivial|exact rfl|exact nP|constructor))
  rintro⟨i,s⟩ ⟨hi,J⟩;have hi':i≤l.length:=hi;have J':ITo bk (l.drop i) s c t:=J;have gs:=J'.ok;have hlx:=gs.lx;have htr:=gs.tr;refine aI (fun q3=> ?_) (fun q3=> ?_)
  ·have hlt:i<l.length:=ltU q3;have eD:=Vu (0,0) hlt;rw[eD]at J';have eP:elt (dflt aR) l ((i:Nat):Int)=l.getD i (0,0):=rfl;refine aI (show 0≤((i:Nat):Int)∧((i:Nat):Int)<(l.length:Nat) by omega) ?_;cases J' with
   |bad _ _ _ g iX _ hc3 hI hS=>
    rw[←eP]at iX hI;have hC:=Cc t.xs _ iX.1 iX.2
    conv=>whnf
    refine Or.inr (eI _ (eI _ (aI (aA.o9 aJ [51,0] Ap hC rfl) ?_)))
    conv=>whnf
    refine aI (by kernel_rfl) ?_
    conv=>whnf
    refine Or.inr (eI _ (eI _ (aI (hI) ?_)))
    conv=>whnf
    refine aI (by kernel_rfl) ?_
    conv=>whnf
    refine aI (fun q=> ?_) (fun q=> ?_)
    ·exact fin [] (aI rfl trivial)
    ·exfalso;have q2:(c !=0)=false:=q;simp at q2;exact hc3 q2
   |next _ _ _ s3 g iX k3 hk3 cX eT eC hI hS r=>
    rw[←eP]at iX hI cX;have hC:=Cc s.xs _ iX.1 iX.2;rw[cX]at hC;have hn:=Zae (tr:=s.tr) (by omega);rw[←gs.cn]at hn;have hcn:=ZaA hn hk3;have hcb:=Zaz hn hk3
    conv=>whnf
    refine Or.inr (eI _ (eI _ (aI (aA.o9 aJ [51,0] Ap hC rfl) ?_)))
    conv=>whnf
    refine aI (by kernel_rfl) ?_
    conv=>whnf
    refine Or.inr (eI _ (eI _ (aI (hI) ?_)))
    conv=>whnf
    refine aI (by kernel_rfl) ?_
    conv=>whnf
    refine aI (fun q=>by cases q) (fun _=> ?_)
    conv=>whnf
    refine aI hcb ?_
    conv=>whnf
    refine aI hcb ?_
    conv=>whnf
    refine aI (show s.tr.length+1≤1073741824 by omega) ?_
    conv=>whnf
    refine bB (i+1,s3) ⟨hlt,r⟩ ?_ ?_
    ·refine hd [(21001,86),(21003,108)] rfl (aI (aI (eB (by omega)) rfl) trivial) ?_
     conv=>whnf
     refine⟨trivial,⟨rfl,rfl,rfl,rfl,rfl,trivial⟩,trivial,⟨rfl,rfl,rfl,trivial⟩,⟨rfl,nP⟩,rfl,⟨?_,nP⟩,⟨?_,nP⟩,⟨rfl,nP⟩,⟨rfl,nP⟩,trivial,⟨rfl,trivial⟩,trivial,⟨rfl,trivial⟩,⟨rfl,nP⟩,trivial⟩
     ·show s.cn.set (IntKind.i64.wrap (k3-1)).toNat (IntKind.i64.wrap (elt 0 s.cn (IntKind.i64.wrap (k3-1))+1))=s3.cn;rw[eC];exact hcn
     ·exact eT.symm
    ·show l.length-(i+1)<l.length-i;omega
  ·have hge:l.length≤i:=geU q3;rw[List.drop_of_length_le hge]at J';cases J' with
   |done=>exact absurd rfl hc2
 |next _ s2 _ _ _ _ I hl2 hk2 r=>
  rw[←hl]at I;refine lp (Nat×QSt) (fun s=>[(66,.int .i64 (s.1:Nat))]) (fun s=>gRI bk xs cu l s.2) (fun s=>l.length-s.1) (fun s=>s.1≤l.length∧ITo bk (l.drop s.1) s.2 0 s2) (0,rnd s0) ⟨Nat.zero_le _,I⟩ ?_ ?_
  ·exact hd [(21001,1000060),(21003,20003)] rfl (aI (aI rfl rfl) trivial) (by repeat' (first|exact trivial|exact rfl|exact nP|constructor))
  rintro⟨i,s⟩ ⟨hi,J⟩;have hi':i≤l.length:=hi;have J':ITo bk (l.drop i) s 0 s2:=J;have gs:=J'.ok;have hlx:=gs.lx;have htr:=gs.tr;refine aI (fun q3=> ?_) (fun q3=> ?_)
  ·have hlt:i<l.length:=ltU q3;have eD:=Vu (0,0) hlt;rw[eD]at J';have eP:elt (dflt aR) l ((i:Nat):Int)=l.getD i (0,0):=rfl;refine aI (show 0≤((i:Nat):Int)∧((i:Nat):Int)<(l.length:Nat) by omega) ?_;cases J' with
   |bad _ _ _ _ _ _ hc3=>exact absurd rfl hc3
   |next _ _ _ s3 g iX k3 hk3 cX eT eC hI hS r=>
    rw[←eP]at iX hI cX;have hC:=Cc s.xs _ iX.1 iX.2;rw[cX]at hC;have hn:=Zae (tr:=s.tr) (by omega);rw[←gs.cn]at hn;have hcn:=ZaA hn hk3;have hcb:=Zaz hn hk3
    conv=>whnf
    refine Or.inr (eI _ (eI _ (aI (aA.o9 aJ [51,0] Ap hC rfl) ?_)))
    conv=>whnf
    refine aI (by kernel_rfl) ?_
    conv=>whnf
    refine Or.inr (eI _ (eI _ (aI (hI) ?_)))
    conv=>whnf
    refine aI (by kernel_rfl) ?_
    conv=>whnf
    refine aI (fun q=>by cases q) (fun _=> ?_)
    conv=>whnf
    refine aI hcb ?_
    conv=>whnf
    refine aI hcb ?_
    conv=>whnf
    refine aI (show s.tr.length+1≤1073741824 by omega) ?_
    conv=>whnf
    refine bB (i+1,s3) ⟨hlt,r⟩ ?_ ?_
    ·refine hd [(21001,86),(21003,108)] rfl (aI (aI (eB (by omega)) rfl) trivial) ?_
     conv=>whnf
     refine⟨trivial,⟨rfl,rfl,rfl,rfl,rfl,trivial⟩,trivial,⟨rfl,rfl,rfl,trivial⟩,⟨rfl,nP⟩,rfl,⟨?_,nP⟩,⟨?_,nP⟩,⟨rfl,nP⟩,⟨rfl,nP⟩,trivial,⟨rfl,trivial⟩,trivial,⟨rfl,trivial⟩,⟨rfl,nP⟩,trivial⟩
     ·show s.cn.set (IntKind.i64.wrap (k3-1)).toNat (IntKind.i64.wrap (elt 0 s.cn (IntKind.i64.wrap (k3-1))+1))=s3.cn;rw[eC];exact hcn
     ·exact eT.symm
    ·show l.length-(i+1)<l.length-i;omega
  ·have hge:l.length≤i:=geU q3;rw[List.drop_of_length_le hge]at J';cases J' with
   |done _ g2=>
    refine bB (s2,k+1) r ?_ ?_
    ·refine hd [(20000,60),(20001,21001),(20002,2000060),(20003,21003)] rfl (aI (aI (eB (by show k<1000000000;omega)) rfl) trivial) ?_
     conv=>whnf
     exact⟨trivial,⟨rfl,rfl,rfl,rfl,rfl,trivial⟩,trivial,⟨rfl,rfl,rfl,trivial⟩,⟨rfl,nP⟩,rfl,⟨rfl,nP⟩,⟨rfl,nP⟩,⟨rfl,nP⟩,⟨rfl,nP⟩,trivial,⟨rfl,trivial⟩,trivial,⟨rfl,trivial⟩,trivial⟩
    ·show 4001-s2.tr.length<4001-s0.tr.length;omega
theorem ZbN(hs:dH xs)(h:nT (lF bk xs) (dM []&&dS st 0 4000)=0){c:Int}{t:QSt}{m:Nat}(R:OTo bk st (q0 xs) 0 c t m)(hc:c=0):aA Tryz.prog 7 [.rsl bO bk,.agg [.rsl aG xs],.int .i64 st] [] (.tup [.agg [.sl 10000],.sl 10001,.int .i64 (m:Nat),.int .i64 0]) [.row 10000 111 5 aG (mI t.Y) [],.row 10001 2 1 (.int .i64) (Zab t.tr) []]:=by
 refine aA.intro (nt:=74) aJ mixed ZaK Tryz.func7 rfl rfl rfl rfl rfl rfl ?_;have hst:=(jS (Zar bk xs [] st h).2.2).2;have hK:=ZbE bk xs [] st;rw[h]at hK;refine Or.inr (eI _ (eI _ (aI (aA.yh (a:=[.rsl bO bk,.ptr 10000 0]) (b:=[.int .i64 st]) hK) ?_)));refine aI (fun q=>by cases q) (fun _=> ?_);refine Or.inr (eI _ (eI _ (aI (Za0 xs hs) ?_)));refine lp (QSt×Nat) (fun s=>[(12,.int .i64 (s.2:Nat))]) (fun s=>gRS xs s.1) (fun s=>4001-s.1.tr.length) (fun s=>OTo bk st s.1 s.2 c t m) (q0 xs,0) R ?_ ?_
 ·exact Tz [⟨2000022,30000,2,1,(.int .i64)⟩] [(20000,1000022),(20001,30000)] rfl (aI (aI (aI rfl rfl) trivial) (by repeat' (first|exact trivial|exact rfl|exact nP|constructor)))
 rintro⟨s0,k⟩ hR;have hR':OTo bk st s0 k c t m:=hR;have g:=hR'.ok;obtain⟨l,hl⟩:∃l,l=rPr s0:=⟨_,rfl⟩;have hlx:=g.lx;have htr:=g.tr;have hlen:=g.tw.len;have F:=g.rnd;have hlp:l.length≤(mI s0.Y).length:=by rw[hl];exact Yx _
 have hll:=g.live;refine Or.inr (eI _ (eI _ (aI (ZbC s0.Y [] s0.pk s0.tr (wR g.tw (by omega)) (by omega) g.tw.Kl) ?_)));have hPr:=Zbk (mI s0.Y) [] s0.pk s0.tr (by omega) F.tw.pos F.tw.VX;rw[show kH (mI s0.Y)=l from hl.symm]at hPr;refine Or.inr (eI _ (eI _ (aI (hPr) ?_)));refine aI (fun q1=> ?_) (fun q1=> ?_)
 ·have q2:(((l.length:Nat):Int)==0)=true:=q1;have hz:l.length=0:=by simpa using q2
  cases hR' with
  |done _ _ _ _=>
   refine Or.inr (eI _ (eI _ (aI (Za3 t.tr (by omega) g.ct) ?_)));refine aI (by kernel_rfl) ?_;refine fin [(10000,26),(10001,42)] (aI rfl ?_);exact⟨⟨rfl,nP⟩,⟨rfl,nP⟩,trivial⟩
  |full _ _ _ h=>rw[←hl]at h;omega
  |bad _ _ _ _ h=>rw[←hl]at h;omega
  |next _ _ _ _ h=>rw[←hl]at h;omega
 have q2:(((l.length:Nat):Int)==0)=false:=q1;have hz:¬((l.length:Nat):Int)=0:=by simpa using q2
 have ew:IntKind.i64.wrap (((s0.tr.length:Nat):Int)+((l.length:Nat):Int))=((s0.tr.length:Nat):Int)+(l.length:Nat):=by
  have:l.length≤600:=by omega
  exact qO _ (by omega)
 refine aI (fun q3=> ?_) (fun q3=> ?_)
 ·have q4:decide (st<IntKind.i64.wrap (((s0.tr.length:Nat):Int)+((l.length:Nat):Int)))=true:=q3;rw[ew,qQ]at q4;cases hR' with
  |done _ _ _ h=>rw[←hl]at h;omega
  |full=>cases hc
  |bad _ _ _ _ _ e=>rw[←hl]at e;omega
  |next _ _ _ _ _ e=>rw[←hl]at e;omega
 have q4:decide (st<IntKind.i64.wrap (((s0.tr.length:Nat):Int)+((l.length:Nat):Int)))=false:=q3;rw[ew,qP]at q4;cases hR' with
 |done _ _ _ h=>rw[←hl]at h;omega
 |full=>cases hc
 |bad _ _ _ _ _ _ _ hc2=>exact absurd hc hc2
 |next _ s2 _ _ _ _ I hl2 hk2 r=>
  rw[←hl]at I;refine lp (Nat×QSt) (fun s=>[(14,.int .i64 (s.1:Nat))]) (fun s=>gRJ xs l s.2) (fun s=>l.length-s.1) (fun s=>s.1≤l.length∧ITo bk (l.drop s.1) s.2 0 s2) (0,rnd s0) ⟨Nat.zero_le _,I⟩ ?_ ?_
  ·exact hd [(21000,26),(21001,20001)] rfl (aI (aI rfl rfl) trivial) (by repeat' (first|exact trivial|exact rfl|exact nP|constructor))
  rintro⟨i,s⟩ ⟨hi,J⟩;have hi':i≤l.length:=hi;have J':ITo bk (l.drop i) s 0 s2:=J;refine aI (fun q3=> ?_) (fun q3=> ?_)
  ·have hlt:i<l.length:=ltU q3;have eD:=Vu (0,0) hlt;rw[eD]at J';have eP:elt (dflt aR) l ((i:Nat):Int)=l.getD i (0,0):=rfl;refine aI (show 0≤((i:Nat):Int)∧((i:Nat):Int)<(l.length:Nat) by omega) ?_;cases J' with
   |bad _ _ _ _ _ _ hc3=>exact absurd rfl hc3
   |next _ _ _ s3 _ _ _ _ _ _ _ hI hS r=>
    rw[←eP]at hS;refine Or.inr (eI _ (eI _ (aI (hS) ?_)));refine aI (fun q=>by cases q) (fun _=> ?_);refine bB (i+1,s3) ⟨hlt,r⟩ ?_ ?_
    ·exact hd [(21000,67),(21001,1000067)] rfl (aI (aI (eB (by omega)) rfl) trivial) (by repeat' (first|exact trivial|exact rfl|exact nP|constructor))
    ·show l.length-(i+1)<l.length-i;omega
  ·have hge:l.length≤i:=geU q3;rw[List.drop_of_length_le hge]at J';cases J' with
   |done _ g2=>
    refine bB (s2,k+1) r ?_ ?_
    ·exact hd [(20000,21000),(20001,21001)] rfl (aI (aI (eB (by omega)) rfl) trivial) (by repeat' (first|exact trivial|exact rfl|exact nP|constructor))
    ·show 4001-s2.tr.length<4001-s0.tr.length;omega
theorem Zbx(hs:dH xs)(h:nT (lF bk xs) (dM []&&dS st 0 4000)=0){c:Int}{t:QSt}{m:Nat}(R:OTo bk st (q0 xs) 0 c t m)(hc:c≠0):aA Tryz.prog 7 [.rsl bO bk,.agg [.rsl aG xs],.int .i64 st] [] (.tup [.agg [.raw (.slice none 0 0)],.raw (.slice none 0 0),.int .i64 0,.int .i64 c]) []:=by
 refine aA.intro (nt:=74) aJ mixed ZaK Tryz.func7 rfl rfl rfl rfl rfl rfl ?_;have hst:=(jS (Zar bk xs [] st h).2.2).2;have hK:=ZbE bk xs [] st;rw[h]at hK;refine Or.inr (eI _ (eI _ (aI (aA.yh (a:=[.rsl bO bk,.ptr 10000 0]) (b:=[.int .i64 st]) hK) ?_)));refine aI (fun q=>by cases q) (fun _=> ?_);refine Or.inr (eI _ (eI _ (aI (Za0 xs hs) ?_)));refine lp (QSt×Nat) (fun s=>[(12,.int .i64 (s.2:Nat))]) (fun s=>gRS xs s.1) (fun s=>4001-s.1.tr.length) (fun s=>OTo bk st s.1 s.2 c t m) (q0 xs,0) R ?_ ?_
 ·exact Tz [⟨2000022,30000,2,1,(.int .i64)⟩] [(20000,1000022),(20001,30000)] rfl (aI (aI (aI rfl rfl) trivial) (by repeat' (first|exact trivial|exact rfl|exact nP|constructor)))
 rintro⟨s0,k⟩ hR;have hR':OTo bk st s0 k c t m:=hR;have g:=hR'.ok;obtain⟨l,hl⟩:∃l,l=rPr s0:=⟨_,rfl⟩;have hlx:=g.lx;have htr:=g.tr;have hlen:=g.tw.len;have F:=g.rnd;have hlp:l.length≤(mI s0.Y).length:=by rw[hl];exact Yx _
 have hll:=g.live;refine Or.inr (eI _ (eI _ (aI (ZbC s0.Y [] s0.pk s0.tr (wR g.tw (by omega)) (by omega) g.tw.Kl) ?_)));have hPr:=Zbk (mI s0.Y) [] s0.pk s0.tr (by omega) F.tw.pos F.tw.VX;rw[show kH (mI s0.Y)=l from hl.symm]at hPr;refine Or.inr (eI _ (eI _ (aI (hPr) ?_)));refine aI (fun q1=> ?_) (fun q1=> ?_)
 ·have q2:(((l.length:Nat):Int)==0)=true:=q1;have hz:l.length=0:=by simpa using q2
  cases hR' with
  |done=>exact absurd rfl hc
  |full _ _ _ h=>rw[←hl]at h;omega
  |bad _ _ _ _ h=>rw[←hl]at h;omega
  |next _ _ _ _ h=>rw[←hl]at h;omega
 have q2:(((l.length:Nat):Int)==0)=false:=q1;have hz:¬((l.length:Nat):Int)=0:=by simpa using q2
 have ew:IntKind.i64.wrap (((s0.tr.length:Nat):Int)+((l.length:Nat):Int))=((s0.tr.length:Nat):Int)+(l.length:Nat):=by
  have:l.length≤600:=by omega
  exact qO _ (by omega)
 refine aI (fun q3=> ?_) (fun q3=> ?_)
 ·have q4:decide (st<IntKind.i64.wrap (((s0.tr.length:Nat):Int)+((l.length:Nat):Int)))=true:=q3;rw[ew,qQ]at q4;cases hR' with
  |done _ _ _ h=>rw[←hl]at h;omega
  |full=>exact fin [] (aI rfl trivial)
  |bad _ _ _ _ _ e=>rw[←hl]at e;omega
  |next _ _ _ _ _ e=>rw[←hl]at e;omega
 have q4:decide (st<IntKind.i64.wrap (((s0.tr.length:Nat):Int)+((l.length:Nat):Int)))=false:=q3;rw[ew,qP]at q4;cases hR' with
 |done _ _ _ h=>rw[←hl]at h;omega
 |full _ _ _ _ e=>rw[←hl]at e;omega
 |bad _ _ _ _ _ _ _ hc2 I=>
  rw[←hl]at I;refine lp (Nat×QSt) (fun s=>[(14,.int .i64 (s.1:Nat))]) (fun s=>gRJ xs l s.2) (fun s=>l.length-s.1) (fun s=>s.1≤l.length∧ITo bk (l.drop s.1) s.2 c t) (0,rnd s0) ⟨Nat.zero_le _,I⟩ ?_ ?_
  ·exact hd [(21000,26),(21001,20001)] rfl (aI (aI rfl rfl) trivial) (by repeat' (first|exact trivial|exact rfl|exact nP|constructor))
  rintro⟨i,s⟩ ⟨hi,J⟩;have hi':i≤l.length:=hi;have J':ITo bk (l.drop i) s c t:=J;refine aI (fun q3=> ?_) (fun q3=> ?_)
  ·have hlt:i<l.length:=ltU q3;have eD:=Vu (0,0) hlt;rw[eD]at J';have eP:elt (dflt aR) l ((i:Nat):Int)=l.getD i (0,0):=rfl;refine aI (show 0≤((i:Nat):Int)∧((i:Nat):Int)<(l.length:Nat) by omega) ?_;cases J' with
   |bad _ _ _ _ _ _ hc3 hI hS=>
    rw[←eP]at hS;refine Or.inr (eI _ (eI _ (aI (hS) ?_)));refine aI (fun q=> ?_) (fun q=> ?_)
    ·exact fin [] (aI rfl trivial)
    ·exfalso;have q2:(c !=0)=false:=q;simp at q2;exact hc3 q2
   |next _ _ _ s3 _ _ _ _ _ _ _ hI hS r=>
    rw[←eP]at hS;refine Or.inr (eI _ (eI _ (aI (hS) ?_)));refine aI (fun q=>by cases q) (fun _=> ?_);refine bB (i+1,s3) ⟨hlt,r⟩ ?_ ?_
    ·exact hd [(21000,67),(21001,1000067)] rfl (aI (aI (eB (by omega)) rfl) trivial) (by repeat' (first|exact trivial|exact rfl|exact nP|constructor))
    ·show l.length-(i+1)<l.length-i;omega
  ·have hge:l.length≤i:=geU q3;rw[List.drop_of_length_le hge]at J';cases J' with
   |done=>exact absurd rfl hc2
 |next _ s2 _ _ _ _ I hl2 hk2 r=>
  rw[←hl]at I;refine lp (Nat×QSt) (fun s=>[(14,.int .i64 (s.1:Nat))]) (fun s=>gRJ xs l s.2) (fun s=>l.length-s.1) (fun s=>s.1≤l.length∧ITo bk (l.drop s.1) s.2 0 s2) (0,rnd s0) ⟨Nat.zero_le _,I⟩ ?_ ?_
  ·exact hd [(21000,26),(21001,20001)] rfl (aI (aI rfl rfl) trivial) (by repeat' (first|exact trivial|exact rfl|exact nP|constructor))
  rintro⟨i,s⟩ ⟨hi,J⟩;have hi':i≤l.length:=hi;have J':ITo bk (l.drop i) s 0 s2:=J;refine aI (fun q3=> ?_) (fun q3=> ?_)
  ·have hlt:i<l.length:=ltU q3;have eD:=Vu (0,0) hlt;rw[eD]at J';have eP:elt (dflt aR) l ((i:Nat):Int)=l.getD i (0,0):=rfl;refine aI (show 0≤((i:Nat):Int)∧((i:Nat):Int)<(l.length:Nat) by omega) ?_;cases J' with
   |bad _ _ _ _ _ _ hc3=>exact absurd rfl hc3
   |next _ _ _ s3 _ _ _ _ _ _ _ hI hS r=>
    rw[←eP]at hS;refine Or.inr (eI _ (eI _ (aI (hS) ?_)));refine aI (fun q=>by cases q) (fun _=> ?_);refine bB (i+1,s3) ⟨hlt,r⟩ ?_ ?_
    ·exact hd [(21000,67),(21001,1000067)] rfl (aI (aI (eB (by omega)) rfl) trivial) (by repeat' (first|exact trivial|exact rfl|exact nP|constructor))
    ·show l.length-(i+1)<l.length-i;omega
  ·have hge:l.length≤i:=geU q3;rw[List.drop_of_length_le hge]at J';cases J' with
   |done _ g2=>
    refine bB (s2,k+1) r ?_ ?_
    ·exact hd [(20000,21000),(20001,21001)] rfl (aI (aI (eB (by omega)) rfl) trivial) (by repeat' (first|exact trivial|exact rfl|exact nP|constructor))
    ·show 4001-s2.tr.length<4001-s0.tr.length;omega
end
end Go.Proofs.YtcjhkgfmklgikaaGreat
