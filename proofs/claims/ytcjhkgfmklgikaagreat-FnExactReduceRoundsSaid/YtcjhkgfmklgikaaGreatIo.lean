
/- The program's nets: wires. -/
import Derived.Test.YtcjhkgfmklgikaaGreatShort
import Derived.Test.YtcjhkgfmklgikaaGreatProg
import Derived.Test.YtcjhkgfmklgikaaGreatVti
import Derived.Test.YtcjhkgfmklgikaaGreatNy
import Derived.Test.YtcjhkgfmklgikaaGreatVV
import Derived.Test.YtcjhkgfmklgikaaGreatValid
set_option maxHeartbeats 4000000
set_option maxRecDepth 100000
set_option linter.unusedSimpArgs false
set_option linter.unusedVariables false
set_option linter.unusedSectionVars false
namespace Go.Proofs.YtcjhkgfmklgikaaGreat
open Go Go.RowKit Go.Proofs Go.Tr
abbrev tW(xs:List aj)(us:List Value)(bk:List (El bO))(kv:List (Int×Bool)):List Tok:=[.dD 10000 78 [.sl 10001,.rsl bO bk,.mp 10002],.row 10001 111 5 aG xs us,.map 10002 .bool kv]
theorem QW:bK Tryz.prog 131=true:=by kernel_rfl
theorem Fv(xs:List aj)(us:List Value)(bk:List (El bO))(kv:List (Int×Bool))(p q:aD)(hp:ak xs p)(hq:ak xs q):aA Tryz.prog 131 [.ptr 10000 0,vP p,vP q] (tW xs us bk kv) (.tup []) (tW (bL xs p q) us bk kv):=by
 refine aA.expose QW ?_;intro us' hpre hlen;have hq':ak (aL xs p q) q:=hq.set;obtain⟨p1,p2,p3,p4⟩:=hp;obtain⟨q1,q2,q3,q4⟩:=hq';have q2':q.1<(xs.length:Nat):=by rwa[cK]at q2
 refine aA.intro (nt:=32) aJ mixed QW Tryz.func131 rfl rfl rfl rfl rfl rfl ?_;refine aI ⟨p1,p2⟩ ?_;refine aI (sJ hlen p1 p2) ?_;refine aI ⟨p3,p4⟩ ?_;refine eI 10001 (aI ⟨⟨p1,p2,rJ hlen p1 p2 (by decide)⟩,p3,p4⟩ ?_);refine aI (by kernel_rfl) ?_;refine aI ⟨q1,q2⟩ ?_;refine aI (sJ hlen q1 q2') ?_;refine aI ⟨q3,q4⟩ ?_;refine eI 10001 (aI ⟨⟨q1,q2,rJ hlen q1 q2' (by decide)⟩,q3,q4⟩ ?_);refine aI (by kernel_rfl) ?_;refine fin [] (aI rfl ?_);exact⟨trivial,⟨rfl,rfl,rfl,trivial⟩,⟨rfl,hpre⟩,rfl,trivial⟩
theorem KX:bK Tryz.prog 95=true:=by kernel_rfl
theorem Bg(xs:List aj)(p:aD)(hp:ak xs p):aN Tryz.prog 95 [.rp bO xs,vP p] (vP (au xs p)):=by
 obtain⟨p1,p2,p3,p4⟩:=hp;refine aN.intro (nt:=18) aJ mixed KX Tryz.func95 rfl rfl rfl rfl rfl ?_;refine aI ⟨p1,p2⟩ ?_;refine aI ⟨p3,p4⟩ ?_;refine aI (by kernel_rfl) ?_;exact rfl
theorem Rj(xs:List aj)(us:List Value)(bk:List (El bO))(kv:List (Int×Bool))(p:aD)(hp:ak xs p):aA Tryz.prog 95 [.ptr 10000 0,vP p] (tW xs us bk kv) (vP (au xs p)) (tW xs us bk kv):=
 aA.o9 aJ [51,0] KX (Bg xs p hp) rfl
theorem XY(xs:List aj)(us:List Value)(bk:List (El bO))(kv:List (Int×Bool))(p q:aD)(hp:ak xs p)(hr:ak xs (au xs p))(hq:ak xs q):aA Tryz.prog 77 [.ptr 10000 0,vP p,vP q] (tW xs us bk kv) (.tup []) (tW (dA xs p q) us bk kv):=by
 refine aA.intro (nt:=16) aJ mixed (by kernel_rfl) Tryz.func77 rfl rfl rfl rfl rfl rfl ?_;refine Or.inr (eI _ (eI _ (aI (Rj xs us bk kv p hp) ?_)));refine Or.inr (eI _ (eI _ (aI (Fv xs us bk kv _ q hr hq) ?_)));refine aI (by kernel_rfl) ?_;refine fin [] (aI rfl ?_);exact⟨trivial,⟨rfl,rfl,rfl,trivial⟩,⟨rfl,pR _⟩,rfl,trivial⟩
theorem ML(xs:List aj)(us:List Value)(bk:List (El bO))(kv:List (Int×Bool))(p q:aD)(hp:ak xs p)(hq:ak xs q)(hr:ak xs (au xs p))(hs:ak xs (au xs q)):aA Tryz.prog 75 [.ptr 10000 0,vP p,vP q] (tW xs us bk kv) (.tup []) (tW (aV xs p q) us bk kv):=by
 refine aA.intro (nt:=27) aJ mixed (by kernel_rfl) Tryz.func75 rfl rfl rfl rfl rfl rfl ?_;refine Or.inr (eI _ (eI _ (aI (Rj xs us bk kv p hp) ?_)));refine Or.inr (eI _ (eI _ (aI (Rj xs us bk kv q hq) ?_)));refine aI (by kernel_rfl) ?_;refine aI ⟨by kernel_rfl,rfl⟩ ?_;refine aI (fun h1=> ?_) (fun h1=> ?_)
 ·refine Or.inr (eI _ (eI _ (aI (Fv xs us bk kv (au xs p) (au xs q) hr hs) ?_)));refine aI (by kernel_rfl) ?_;refine fin [] (aI rfl ?_);refine⟨trivial,⟨rfl,rfl,rfl,trivial⟩,⟨?_,pR _⟩,rfl,trivial⟩;have h1:(!gL [(au xs p).1,(au xs p).2] [q.1,q.2])=true:=h1
  have h2:((au xs p).1==q.1&&(au xs p).2==q.2)=false:=by
   cases hc:((au xs p).1==q.1&&(au xs p).2==q.2)with
   |false=>rfl
   |true=>simp[gL,hc]at h1
  show bL xs (au xs p) (au xs q)=_;unfold aV;rw[h2];rfl
 ·refine fin [] (aI rfl ?_);refine⟨trivial,⟨rfl,rfl,rfl,trivial⟩,⟨?_,pR _⟩,rfl,trivial⟩;have h1:(!gL [(au xs p).1,(au xs p).2] [q.1,q.2])=false:=h1;have h2:((au xs p).1==q.1&&(au xs p).2==q.2)=true:=by simpa[gL]using h1
  show xs=_;unfold aV;rw[h2];rfl
theorem wJ:bK Tryz.prog 132=true:=by kernel_rfl
theorem Ky(xs:List (El (.int .i64)))(hx:xs.length≤1048576):aA Tryz.prog 132 [.rsl (.int .i64) xs] [] (.sl 10000) [.row 10000 2 1 (.int .i64) xs []]:=by
 refine aA.XD (fun he c=> ?_) ?_
 ·subst he;refine aA.intro (nt:=8) aJ mixed wJ Tryz.func132 rfl rfl rfl rfl rfl rfl ?_;refine aI (fun h1=> ?_) (fun h1=>by cases h1);refine Vx [⟨2,30000,2,1,.int .i64⟩] [(10000,30000)] (aI rfl ?_);exact⟨⟨rfl,nP⟩,trivial⟩
 ·refine aA.intro (nt:=8) aJ mixed wJ Tryz.func132 rfl rfl rfl rfl rfl rfl ?_;refine aI (fun h1=>by cases h1) (fun h1=> ?_);refine aI (by show 0+xs.length≤_;omega) ?_;refine fin [(10000,7)] (aI rfl ?_);exact⟨⟨rfl,nP⟩,trivial⟩
theorem FH:bK Tryz.prog 154=true:=by kernel_rfl
theorem SQ(xs:List (El (aR)))(hx:xs.length≤1048576):aA Tryz.prog 154 [.rsl (aR) xs] [] (.sl 10000) [.row 10000 86 2 (aR) xs []]:=by
 refine aA.XD (fun he c=> ?_) ?_
 ·subst he;refine aA.intro (nt:=8) aJ mixed FH Tryz.func154 rfl rfl rfl rfl rfl rfl ?_;refine aI (fun h1=> ?_) (fun h1=>by cases h1);refine Vx [⟨2,30000,86,2,aR⟩] [(10000,30000)] (aI rfl ?_);exact⟨⟨rfl,nP⟩,trivial⟩
 ·refine aA.intro (nt:=8) aJ mixed FH Tryz.func154 rfl rfl rfl rfl rfl rfl ?_;refine aI (fun h1=>by cases h1) (fun h1=> ?_);refine aI (by show 0+xs.length≤_;omega) ?_;refine fin [(10000,7)] (aI rfl ?_);exact⟨⟨rfl,nP⟩,trivial⟩
theorem uX(xs:List aj)(us:List Value)(bk:List (El bO))(kv:List (Int×Bool))(ks:List Int)(hk:ks.length≤1000):aA Tryz.prog 82 [.ptr 10000 0,.sl 10003] (tW xs us bk kv++[.row 10003 2 1 (.int .i64) ks []]) (.tup []) (tW xs us bk (kW kv ks)):=by
 refine aA.intro (nt:=18) aJ mixed (by kernel_rfl) Tryz.func82 rfl rfl rfl rfl rfl rfl ?_;refine lp Nat (fun i=>[(8,.int .i64 (i:Nat))]) (fun i=>tW xs us bk (kW kv (ks.take i))++[.row 10003 2 1 (.int .i64) ks []]) (fun i=>ks.length-i) (fun i=>i≤ks.length) 0 (Nat.zero_le _) ?_ ?_
 ·exact hd [] rfl (aI (aI rfl rfl) trivial) ⟨trivial,⟨rfl,rfl,rfl,trivial⟩,⟨rfl,pR _⟩,rfl,⟨rfl,nP⟩,trivial⟩
 intro i hi;refine aI (fun h1=> ?_) (fun h1=> ?_)
 ·have hlt:i<ks.length:=by simpa using h1
  refine aI (by show(0:Int)≤(i:Nat)∧((i:Nat):Int)<(ks.length:Nat);omega) ?_;refine bB (i+1) hlt ?_ ?_
  ·refine hd [] rfl (aI (aI (eB (by omega)) rfl) trivial) ⟨trivial,⟨rfl,rfl,rfl,trivial⟩,⟨rfl,pR _⟩,OG kv hlt,⟨rfl,nP⟩,trivial⟩
  ·show ks.length-(i+1)<ks.length-i;omega
 ·have hge:ks.length≤i:=by simpa using h1
  refine fin [] (aI rfl ?_);refine⟨trivial,⟨rfl,rfl,rfl,trivial⟩,⟨rfl,pR _⟩,?_,trivial⟩;show kW kv (ks.take i)=kW kv ks;rw[qN hge]
theorem FX(x:Int):aN Tryz.prog 160 [.int .i64 x] (.int .i64 (mU x)):=by
 refine aN.intro (nt:=6) aJ mixed (by kernel_rfl) Tryz.func160 rfl rfl rfl rfl rfl ?_;exact⟨rfl,rfl⟩
theorem AL(x:Int):aN Tryz.prog 167 [.int .i64 x] (.int .i64 (mU x)):=by
 refine aN.intro (nt:=8) aJ mixed (by kernel_rfl) Tryz.func167 rfl rfl rfl rfl rfl ?_;exact⟨OT x,rfl⟩
theorem LC(b:Bool):aN Tryz.prog 134 [.bool b] (.int .i64 (bif b then 1 else 0)):=by
 refine aN.intro (nt:=4) aJ mixed (by kernel_rfl) Tryz.func134 rfl rfl rfl rfl rfl ?_;refine aI (fun h=> ?_) (fun h=> ?_)
 ·subst h;exact⟨rfl,rfl⟩
 ·subst h;exact⟨rfl,rfl⟩
theorem UD(b:Bool):aN Tryz.prog 168 [.bool b] (.int .i64 (bif b then 1 else 0)):=by
 refine aN.intro (nt:=4) aJ mixed (by kernel_rfl) Tryz.func168 rfl rfl rfl rfl rfl ?_;refine aI (fun h=> ?_) (fun h=> ?_)
 ·subst h;exact⟨rfl,rfl⟩
 ·subst h;exact⟨rfl,rfl⟩
theorem Rb(o a b:Int):aN Tryz.prog 133 [.int .i64 o,.int .i64 a,.int .i64 b] (.int .i64 (wK o a b)):=by
 refine aN.intro (nt:=52) aJ mixed (by kernel_rfl) Tryz.func133 rfl rfl rfl rfl rfl ?_;refine Or.inl (eI _ (aI (FX a) ?_));refine Or.inl (eI _ (aI (FX b) ?_));refine aI (fun h1=> ?_) (fun h1=> ?_)
 ·refine Or.inl (eI _ (aI (FX _) ?_));refine⟨?_,rfl⟩;simp only[wK,h1,qG]
 refine aI (fun h2=> ?_) (fun h2=> ?_)
 ·refine Or.inl (eI _ (aI (FX _) ?_));refine⟨?_,rfl⟩;simp only[wK,h1,h2,qG,qH]
 refine aI (fun h3=> ?_) (fun h3=> ?_)
 ·refine Or.inl (eI _ (aI (FX _) ?_));refine⟨?_,rfl⟩;simp only[wK,h1,h2,h3,qG,qH]
 refine aI (fun h4=> ?_) (fun h4=> ?_)
 ·refine aI (fun h5=> ?_) (fun h5=> ?_)
  ·refine⟨?_,rfl⟩;simp only[wK,h1,h2,h3,h4,h5,qG,qH]
  ·refine aI (by simpa using h5) ?_;refine Or.inl (eI _ (aI (FX _) ?_));refine⟨?_,rfl⟩;simp only[wK,h1,h2,h3,h4,h5,qG,qH]
 refine aI (fun h5=> ?_) (fun h5=> ?_)
 ·refine Or.inl (eI _ (aI (LC _) ?_));refine⟨?_,rfl⟩;simp only[wK,h1,h2,h3,h4,h5,qG,qH]
 refine aI (fun h6=> ?_) (fun h6=> ?_)
 ·refine Or.inl (eI _ (aI (LC _) ?_));refine⟨?_,rfl⟩;simp only[wK,h1,h2,h3,h4,h5,h6,qG,qH]
 ·refine⟨?_,rfl⟩;simp only[wK,h1,h2,h3,h4,h5,h6,qG,qH]
theorem JC(o a b:Int):aN Tryz.prog 147 [.int .i64 o,.int .i64 a,.int .i64 b] (.int .i64 (wK o a b)):=by
 refine aN.intro (nt:=52) aJ mixed (by kernel_rfl) Tryz.func147 rfl rfl rfl rfl rfl ?_;refine Or.inl (eI _ (aI (AL a) ?_));refine Or.inl (eI _ (aI (AL b) ?_));refine aI (fun h1=> ?_) (fun h1=> ?_)
 ·refine Or.inl (eI _ (aI (AL _) ?_));refine⟨?_,rfl⟩;simp only[wK,h1,qG]
 refine aI (fun h2=> ?_) (fun h2=> ?_)
 ·refine Or.inl (eI _ (aI (AL _) ?_));refine⟨?_,rfl⟩;simp only[wK,h1,h2,qG,qH]
 refine aI (fun h3=> ?_) (fun h3=> ?_)
 ·refine Or.inl (eI _ (aI (AL _) ?_));refine⟨?_,rfl⟩;simp only[wK,h1,h2,h3,qG,qH]
 refine aI (fun h4=> ?_) (fun h4=> ?_)
 ·refine aI (fun h5=> ?_) (fun h5=> ?_)
  ·refine⟨?_,rfl⟩;simp only[wK,h1,h2,h3,h4,h5,qG,qH]
  ·refine aI (by simpa using h5) ?_;refine Or.inl (eI _ (aI (AL _) ?_));refine⟨?_,rfl⟩;simp only[wK,h1,h2,h3,h4,h5,qG,qH]
 refine aI (fun h5=> ?_) (fun h5=> ?_)
 ·refine Or.inl (eI _ (aI (UD _) ?_));refine⟨?_,rfl⟩;simp only[wK,h1,h2,h3,h4,h5,qG,qH]
 refine aI (fun h6=> ?_) (fun h6=> ?_)
 ·refine Or.inl (eI _ (aI (UD _) ?_));refine⟨?_,rfl⟩;simp only[wK,h1,h2,h3,h4,h5,h6,qG,qH]
 ·refine⟨?_,rfl⟩;simp only[wK,h1,h2,h3,h4,h5,h6,qG,qH]
theorem oO(a b:Bool):(bif a then b else false)=(a&&b):=by cases a<;>rfl
theorem BS(a b:Bool):(bif a then true else b)=(a||b):=by cases a<;>rfl
theorem Fg(n lo hi:Int):aN Tryz.prog 55 [.int .i64 n,.int .i64 lo,.int .i64 hi] (.bool (dS n lo hi)):=by
 refine aN.intro (nt:=15) aJ mixed (by kernel_rfl) Tryz.func55 rfl rfl rfl rfl rfl ?_;exact oO _ _
theorem UN(n:Int):aN Tryz.prog 155 [.int .i64 n] (.bool (kr n)):=by
 refine aN.intro (nt:=9) aJ mixed (by kernel_rfl) Tryz.func155 rfl rfl rfl rfl rfl ?_;exact oO _ _
theorem Qq(n:Int):aN Tryz.prog 157 [.int .i64 n] (.bool (xD n)):=by
 refine aN.intro (nt:=9) aJ mixed (by kernel_rfl) Tryz.func157 rfl rfl rfl rfl rfl ?_;exact oO _ _
theorem BK(k:Int):aN Tryz.prog 156 [.int .i64 k] (.bool (bR k)):=by
 refine aN.intro (nt:=17) aJ mixed (by kernel_rfl) Tryz.func156 rfl rfl rfl rfl rfl ?_;refine Or.inl (eI _ (aI (UN k) ?_));refine Eq.trans (Eq.refl _) ?_;simp only[oO,bR]
theorem BL(k:Int):aN Tryz.prog 148 [.int .i64 k] (.bool (bR k)):=by
 refine aN.intro (nt:=14) aJ mixed (by kernel_rfl) Tryz.func148 rfl rfl rfl rfl rfl ?_
 repeat' (refine aI (fun _=> ?_) (fun _=> ?_))
 all_goals (refine Eq.trans (Eq.refl _) ?_)
 all_goals (simp_all [bR,kr,dS])
 all_goals omega
theorem Gf(k l:Int):aN Tryz.prog 127 [.int .i64 k,.int .i64 l] (.bool (cB k l)):=by
 refine aN.intro (nt:=19) aJ mixed (by kernel_rfl) Tryz.func127 rfl rfl rfl rfl rfl ?_;refine Or.inl (eI _ (aI (UN k) ?_));refine Or.inl (eI _ (aI (fun _=>BK k) ?_));refine Or.inl (eI _ (aI (fun _=>Qq l) ?_));refine Eq.trans (Eq.refl _) ?_;simp only[oO,BS,cB]
theorem Xy(k:Int):aN Tryz.prog 175 [.int .i64 k] (.bool (kr k)):=by
 refine aN.intro (nt:=5) aJ mixed (by kernel_rfl) Tryz.func175 rfl rfl rfl rfl rfl ?_;refine Or.inl (eI _ (aI (Fg k 1 12) ?_));exact rfl
theorem Kk(k l:Int):aN Tryz.prog 163 [.int .i64 k,.int .i64 l] (.bool (cB k l)):=by
 refine aN.intro (nt:=15) aJ mixed (by kernel_rfl) Tryz.func163 rfl rfl rfl rfl rfl ?_;refine Or.inl (eI _ (aI (BL k) ?_));refine aI (fun q=> ?_) (fun q=> ?_)
 ·refine Or.inl (eI _ (aI (Fg l 0 8) ?_));refine Eq.trans (Eq.refl _) ?_;have q:bR k=true:=q;have hk:kr k=true:=by cases h:kr k with|true=>rfl|false=>rw[nu h]at q;cases q
  simp only[cB,q,hk,Bool.true_and,xD]
  by_cases h0:l=0
  ·subst h0;rfl
  ·simp[h0]
 ·refine Or.inl (eI _ (aI (Xy k) ?_));refine Eq.trans (Eq.refl _) ?_;have q:bR k=false:=q;simp only[oO,cB,q,Bool.false_and,Bool.or_false]
theorem Xm(k:Int):aN Tryz.prog 159 [.int .i64 k] (.bool (oF k)):=by
 refine aN.intro (nt:=21) aJ mixed (by kernel_rfl) Tryz.func159 rfl rfl rfl rfl rfl ?_;refine Eq.trans (Eq.refl _) ?_;simp only[BS,oF,Bool.or_assoc]
theorem Xn(k:Int):aN Tryz.prog 166 [.int .i64 k] (.bool (oF k)):=by
 refine aN.intro (nt:=10) aJ mixed (by kernel_rfl) Tryz.func166 rfl rfl rfl rfl rfl ?_
 repeat' (refine aI (fun _=> ?_) (fun _=> ?_))
 all_goals (refine Eq.trans (Eq.refl _) ?_)
 all_goals simp_all [oF]
theorem Zf(t k l:Int):aN Tryz.prog 158 [.int .i64 t,.int .i64 k,.int .i64 l] (.bool (Bp t k l)):=by
 refine aN.intro (nt:=31) aJ mixed (by kernel_rfl) Tryz.func158 rfl rfl rfl rfl rfl ?_;refine Or.inl (eI _ (aI (Qq t) ?_));refine Or.inl (eI _ (aI (fun _=>Gf k l) ?_));refine aI (fun q=> ?_) (fun q=> ?_)
 ·refine Eq.trans (Eq.refl _) ?_;simp only[Bp];have q:(bif !xD t then true else !cB k l)=true:=q;revert q;cases xD t<;>cases cB k l<;>simp
 ·refine Or.inl (eI _ (aI (fun _=>BK k) ?_));refine Eq.trans (Eq.refl _) ?_;have q:(bif !xD t then true else !cB k l)=false:=q;have h:xD t=true∧cB k l=true:=by revert q;cases xD t<;>cases cB k l<;>simp
  simp only[oO,BS,Bp,h.1,h.2,Bool.true_and,Bool.or_assoc]
theorem Zg(t k l:Int):aN Tryz.prog 165 [.int .i64 t,.int .i64 k,.int .i64 l] (.bool (Bp t k l)):=by
 refine aN.intro (nt:=29) aJ mixed (by kernel_rfl) Tryz.func165 rfl rfl rfl rfl rfl ?_;refine Or.inl (eI _ (aI (Fg t 0 8) ?_));refine Or.inl (eI _ (aI (fun _=>Kk k l) ?_));refine aI (fun q=> ?_) (fun q=> ?_)
 ·refine Eq.trans (Eq.refl _) ?_;simp only[Bp];have q:(bif !xD t then true else !cB k l)=true:=q;revert q;cases xD t<;>cases cB k l<;>simp
 ·have q:(bif !xD t then true else !cB k l)=false:=q;have h:xD t=true∧cB k l=true:=by revert q;cases xD t<;>cases cB k l<;>simp
  refine aI (fun q2=> ?_) (fun q2=> ?_)
  ·refine Eq.trans (Eq.refl _) ?_;have q2:(bif k==6 then true else k==12)=true:=q2;rw[BS]at q2;simp only[Bp,h.1,h.2,q2,Bool.true_and,Bool.true_or]
  ·refine Or.inl (eI _ (aI (BL k) ?_));refine Eq.trans (Eq.refl _) ?_;have q2:(bif k==6 then true else k==12)=false:=q2;rw[BS]at q2;simp only[oO,Bp,h.1,h.2,q2,Bool.true_and,Bool.false_or]
theorem U3(ka la kb lb:Int):aN Tryz.prog 128 [.int .i64 ka,.int .i64 la,.int .i64 kb,.int .i64 lb] (.int .i64 (rule ka la kb lb)):=by
 refine aN.intro (nt:=52) aJ mixed (by kernel_rfl) Tryz.func128 rfl rfl rfl rfl rfl ?_;refine aI (fun _=> ?_) (fun _=>aI (fun _=>aI (fun _=> ?_) (fun _=>Or.inl (eI _ (aI (Zf la kb lb) (aI (fun _=> ?_) (fun _=> ?_)))))) (fun _=> ?_))
 repeat' (refine aI ?_ ?_<;>intro _)
 rotate_right 2
 refine Or.inl (eI _ (aI (Xm kb) (aI (fun _=> ?_) (fun _=> ?_))))
 all_goals (refine aI (Eq.trans (Eq.refl _) ?_) rfl)
 all_goals (simp_all [rule])
theorem Ns(ka la kb lb:Int):aN Tryz.prog 141 [.int .i64 ka,.int .i64 la,.int .i64 kb,.int .i64 lb] (.int .i64 (rule ka la kb lb)):=by
 refine aN.intro (nt:=50) aJ mixed (by kernel_rfl) Tryz.func141 rfl rfl rfl rfl rfl ?_;refine aI (fun _=> ?_) (fun _=>aI (fun _=>aI (fun _=> ?_) (fun _=>Or.inl (eI _ (aI (Zg la kb lb) (aI (fun _=> ?_) (fun _=> ?_)))))) (fun _=> ?_))
 repeat' (refine aI ?_ ?_<;>intro _)
 rotate_right 2
 refine Or.inl (eI _ (aI (Xn kb) (aI (fun _=> ?_) (fun _=> ?_))))
 all_goals (refine aI (Eq.trans (Eq.refl _) ?_) rfl)
 all_goals (simp_all [rule])
theorem TW(a b c d:Int):aN Tryz.prog 71 [.int .i64 a,.int .i64 b,.int .i64 c,.int .i64 d] (.tup [.int .i64 (aW a b c d),.int .i64 (aX a b c d)]):=by
 have hp:∀{z:Bool},(bif (bif (bif a==1 then true else c==1)then true else !cB a b)then true else !cB c d)=z→kU a b c d= !z:=fun q=>by
  subst q;unfold kU;simp only[bne];generalize (a==1)=x;generalize (c==1)=y;cases x<;>cases y<;>cases cB a b<;>cases cB c d<;>rfl
 refine aN.intro (nt:=46) aJ mixed (by kernel_rfl) Tryz.func71 rfl rfl rfl rfl rfl ?_;refine Or.inl (eI _ (aI (fun _=>Gf a b) ?_));refine Or.inl (eI _ (aI (fun _=>Gf c d) ?_));refine aI (fun q=> ?_) (fun q=> ?_)
 ·refine Eq.trans (Eq.refl _) ?_;simp only[aW,aX,hp q];rfl
 refine Or.inl (eI _ (aI (U3 a b c d) ?_));refine aI (fun q2=> ?_) (fun q2=> ?_)
 ·refine Eq.trans (Eq.refl _) ?_;have q2:(rule a b c d !=0)=true:=q2;have q2:¬rule a b c d=0:=by simpa using q2
  simp only[aW,aX,hp q,q2,if_false];rfl
 have q2:(rule a b c d !=0)=false:=q2;have q2:rule a b c d=0:=by simpa using q2
 refine Or.inl (eI _ (aI (U3 c d a b) ?_));refine aI (fun q3=> ?_) (fun q3=> ?_)
 ·refine Eq.trans (Eq.refl _) ?_;have q3:(rule c d a b !=0)=true:=q3;have q3:¬rule c d a b=0:=by simpa using q3
  simp only[aW,aX,hp q,q2,q3,if_false];rfl
 ·refine Eq.trans (Eq.refl _) ?_;have q3:(rule c d a b !=0)=false:=q3;have q3:rule c d a b=0:=by simpa using q3
  simp only[aW,aX,hp q,q2,q3];rfl
theorem Rf(a b c d:Int):aN Tryz.prog 140 [.int .i64 a,.int .i64 b,.int .i64 c,.int .i64 d] (.bool (kU a b c d)):=by
 refine aN.intro (nt:=25) aJ mixed (by kernel_rfl) Tryz.func140 rfl rfl rfl rfl rfl ?_;refine Or.inl (eI _ (aI (Kk a b) ?_));refine Or.inl (eI _ (aI (fun _=>Kk c d) ?_));refine Eq.trans (Eq.refl _) ?_;simp only[oO,kU]
theorem K5(a b c d:Int):aN Tryz.prog 103 [.int .i64 a,.int .i64 b,.int .i64 c,.int .i64 d] (.int .i64 (aW a b c d)):=by
 refine aN.intro (nt:=31) aJ mixed (by kernel_rfl) Tryz.func103 rfl rfl rfl rfl rfl ?_;refine Or.inl (eI _ (aI (Rf a b c d) ?_));refine aI (fun q=> ?_) (fun q=> ?_)
 ·refine aI (Eq.trans (Eq.refl _) ?_) rfl;have q:(!kU a b c d)=true:=q;simp[aW,show kU a b c d=false by simpa using q]
 have q:kU a b c d=true:=by have q:(!kU a b c d)=false:=q;simpa using q
 refine Or.inl (eI _ (aI (Ns a b c d) ?_));refine aI (fun q2=>Or.inl (eI _ (aI (Ns c d a b) ?_))) (fun q2=> ?_)
 all_goals (refine aI (fun q3=> ?_) (fun q3=> ?_))
 all_goals (refine aI (Eq.trans (Eq.refl _) ?_) rfl)
 all_goals (simp_all [aW])
theorem PY(a b c d:Int):aN Tryz.prog 145 [.int .i64 a,.int .i64 b,.int .i64 c,.int .i64 d] (.int .i64 (aX a b c d)):=by
 refine aN.intro (nt:=27) aJ mixed (by kernel_rfl) Tryz.func145 rfl rfl rfl rfl rfl ?_;refine Or.inl (eI _ (aI (Rf a b c d) ?_));refine aI (fun q=> ?_) (fun q=> ?_)
 ·refine aI (Eq.trans (Eq.refl _) ?_) rfl;have q:(!kU a b c d)=true:=q;simp[aX,show kU a b c d=false by simpa using q]
 have q:kU a b c d=true:=by have q:(!kU a b c d)=false:=q;simpa using q
 refine Or.inl (eI _ (aI (Ns a b c d) ?_));refine aI (fun q2=> ?_) (fun q2=> ?_)
 ·refine aI (Eq.trans (Eq.refl _) ?_) rfl
  simp_all [aX]
 refine Or.inl (eI _ (aI (Ns c d a b) ?_));refine aI (fun q3=> ?_) (fun q3=> ?_)
 all_goals (refine aI (Eq.trans (Eq.refl _) ?_) rfl)
 all_goals (simp_all [aX])
theorem Ap:bK Tryz.prog 37=true:=by kernel_rfl
theorem Pv(xs:List aj)(p:Int×Int)(h1:0≤p.1∧p.1<(xs.length:Nat))(h2:0≤p.2∧p.2<(xs.length:Nat)):aN Tryz.prog 37 [.rp bO xs,vP p] (.tup [.int .i64 (bJ (ah xs p.1) (ah xs p.2)).1,.bool (bJ (ah xs p.1) (ah xs p.2)).2]):=by
 refine aN.intro (nt:=60) aJ mixed Ap Tryz.func37 rfl rfl rfl rfl rfl ?_;refine aI h1 ?_;refine aI h2 ?_;refine aI (by kernel_rfl) ?_;refine Or.inl (eI _ (aI (TW _ _ _ _) ?_));refine aI (fun q1=> ?_) (fun q1=> ?_)
 ·refine aI (fun q2=> ?_) (fun q2=> ?_)
  ·have e:=Kv (x:=ah xs p.1) (y:=ah xs p.2) q1 q2;rw[e];exact rfl
  ·have e:=Ku (x:=ah xs p.1) (y:=ah xs p.2) q1 q2;rw[e];exact rfl
 ·refine aI (fun q2=> ?_) (fun q2=> ?_)
  ·have e:=Kt (x:=ah xs p.1) (y:=ah xs p.2) q1 q2;rw[e];exact rfl
  ·have e:=Kr (x:=ah xs p.1) (y:=ah xs p.2) q1 q2;rw[e];exact rfl
theorem xg(c p:Int):aN Tryz.prog 130 [.int .i64 c,.int .i64 p] (.tup [.int .i64 (dG c p).1,.int .i64 (dG c p).2]):=by
 refine aN.intro (nt:=34) aJ mixed (by kernel_rfl) Tryz.func130 rfl rfl rfl rfl rfl ?_
 repeat' (refine aI (fun _=> ?_) (fun _=> ?_))
 all_goals (refine Eq.trans (Eq.refl _) ?_;(first|(simp only[dG,jR, *,qG,qH];done)|(simp_all [dG,jR];done)|(simp_all [dG,jR];grind)))
theorem Ch(x:aj)(h1:x.data.length≤1048576)(h2:x.aH.length≤1048576):aA Tryz.prog 126 [.agg [.int .i64 x.1,.int .i64 x.2.1,.int .i64 x.2.2.1,.rsl (.int .i64) x.2.2.2.1,.rsl aR x.2.2.2.2]] [] (.agg [.int .i64 x.1,.int .i64 x.2.1,.int .i64 x.2.2.1,.sl 10000,.sl 10001]) [.row 10000 2 1 (.int .i64) x.2.2.2.1 [],.row 10001 86 2 aR x.2.2.2.2 []]:=by
 refine aA.intro (nt:=12) aJ mixed (by kernel_rfl) Tryz.func126 rfl rfl rfl rfl rfl rfl ?_;refine Or.inr (eI _ (eI _ (aI (Ky _ h1) ?_)));refine Or.inr (eI _ (eI _ (aI (SQ _ h2) ?_)));refine aI (by kernel_rfl) ?_;refine fin [(10000,5),(10001,8)] (aI rfl ?_);exact⟨⟨rfl,nP⟩,⟨rfl,nP⟩,trivial⟩
theorem Zaw:bK Tryz.prog 70=true:=by kernel_rfl
theorem Ci(xs:List aj)(h:dH xs):aA Tryz.prog 70 [.agg [.rsl aG xs]] [] (.agg [.sl 10000]) [.row 10000 111 5 aG xs []]:=by
 obtain⟨hl,ha⟩:=h;refine aA.intro (nt:=27) aJ mixed Zaw Tryz.func70 rfl rfl rfl rfl rfl rfl ?_;refine aI ⟨Int.le_refl 0,by omega,by omega⟩ ?_;refine lp Nat (fun i=>[(14,.int .i64 (i:Nat))]) (fun i=>[.dD 2 30 [.raw (.slice none 0 0)],.dD 3 30 [.sl 20000],.row 20000 111 5 aG (xs.take i) []]) (fun i=>xs.length-i) (fun i=>i≤xs.length) 0 (Nat.zero_le _) ?_ ?_
 ·exact hd [(20000,9)] rfl (aI (aI rfl rfl) trivial) ⟨trivial,⟨rfl,trivial⟩,trivial,⟨rfl,trivial⟩,⟨rfl,nP⟩,trivial⟩
 intro i hi;refine aI (fun q1=> ?_) (fun q1=> ?_)
 ·have hlt:i<xs.length:=by simpa using q1
  refine aI (by show(0:Int)≤(i:Nat)∧((i:Nat):Int)<(xs.length:Nat);omega) ?_;refine Or.inr (eI _ (eI _ (aI (Ch (ah xs i) (ha i).1 (ha i).2) ?_)));refine aI (by show(xs.take i).length+1≤_;rw[List.length_take];omega) ?_;refine aI (by kernel_rfl) ?_;refine bB (i+1) hlt ?_ ?_
  ·refine hd [(20000,23)] rfl (aI (aI (eB (by omega)) rfl) trivial) ⟨trivial,⟨rfl,trivial⟩,trivial,⟨rfl,trivial⟩,⟨?_,nP⟩,trivial⟩;show xs.take i++[ah xs i]=xs.take (i+1);rw[List.take_add_one,qB hlt];unfold ah elt;rw[qK,qC,qB hlt];rfl
  ·show xs.length-(i+1)<xs.length-i;omega
 ·have hge:xs.length≤i:=by simpa using q1
  refine fin [(10000,20000)] (aI rfl ?_);refine⟨⟨?_,nP⟩,trivial⟩;show xs.take i=xs;rw[qN hge]
abbrev RV(g:Nat)(xs:List aj)(us:List Value)(bk:List (El bO))(kv:List (Int×Bool)):List Tok:=[.dD 10000 78 [.sl g,.rsl bO bk,.mp 10002],.row g 111 5 aG xs us,.map 10002 .bool kv]
theorem QN:bK Tryz.prog 78=true:=by kernel_rfl
theorem Px:aA Tryz.prog 132 [.raw (.slice none 0 0)] [] (.sl 10000) [.row 10000 2 1 (.int .i64) [] []]:=by
 refine aA.intro (nt:=8) aJ mixed wJ Tryz.func132 rfl rfl rfl rfl rfl rfl ?_;refine aI (fun h1=> ?_) (fun h1=>by cases h1);refine Vx [⟨2,30000,2,1,.int .i64⟩] [(10000,30000)] (aI rfl ?_);exact⟨⟨rfl,nP⟩,trivial⟩
theorem zR(xs:List aj)(us:List Value)(bk:List (El bO))(kv:List (Int×Bool))(k l v:Int)(n:Nat)(hl:xs.length≤1000000)(hn:n≤1000000):aA Tryz.prog 78 [.ptr 10000 0,.int .i64 k,.int .i64 l,.int .i64 v,.raw (.slice none 0 0),.int .i64 (n:Nat)] (tW xs us bk kv) (.int .i64 (xs.length:Nat)) (RV 10003 (xs++[bg k l v [] n]) us bk kv):=by
 refine aA.intro (nt:=39) aJ mixed QN Tryz.func78 rfl rfl rfl rfl rfl rfl ?_;refine Or.inr (eI _ (eI _ (aI Px ?_)));refine aI ⟨by omega,Int.le_refl _,by omega⟩ ?_;refine aI (by show xs.length+1≤_;omega) ?_;refine aI (by kernel_rfl) ?_;refine fin [(10003,28)] (aI ?_ ?_)
 ·show IntKind.i64.wrap (((xs++[bg k l v [] n]).length:Nat)-1)=((xs.length:Nat):Int)∧IntKind.i64=IntKind.i64;rw[qA,qJ,qO _ (by omega)];exact⟨by omega,rfl⟩
 ·exact⟨trivial,⟨rfl,rfl,rfl,trivial⟩,⟨rfl,pR _⟩,rfl,trivial⟩
theorem Py(ds:List Int)(hd:ds.length≤1048576):aA Tryz.prog 132 [.sl 10000] [.row 10000 2 1 (.int .i64) ds []] (.sl 10001) [.row 10001 2 1 (.int .i64) ds [],.row 10000 2 1 (.int .i64) ds []]:=
 aA.Ey (ts2:=[.row 10001 2 1 (.int .i64) ds []]) aJ [0] wJ (Ky ds hd) rfl rfl rfl
theorem Vj(xs:List aj)(us:List Value)(bk:List (El bO))(kv:List (Int×Bool))(k l v:Int)(n:Nat)(ds:List Int)(hl:xs.length≤1000000)(hn:n≤1000000)(hd:ds.length≤1000000):aA Tryz.prog 78 [.ptr 10000 0,.int .i64 k,.int .i64 l,.int .i64 v,.sl 10003,.int .i64 (n:Nat)] (tW xs us bk kv++[.row 10003 2 1 (.int .i64) ds []]) (.int .i64 (xs.length:Nat)) (RV 10004 (xs++[bg k l v ds n]) us bk kv):=by
 refine aA.intro (nt:=39) aJ mixed QN Tryz.func78 rfl rfl rfl rfl rfl rfl ?_;refine Or.inr (eI _ (eI _ (aI (Py ds (by omega)) ?_)));refine aI ⟨by omega,Int.le_refl _,by omega⟩ ?_;refine aI (by show xs.length+1≤_;omega) ?_;refine aI (by kernel_rfl) ?_;refine fin [(10004,28)] (aI ?_ ?_)
 ·show IntKind.i64.wrap (((xs++[bg k l v ds n]).length:Nat)-1)=((xs.length:Nat):Int)∧IntKind.i64=IntKind.i64;rw[qA,qJ,qO _ (by omega)];exact⟨by omega,rfl⟩
 ·exact⟨trivial,⟨rfl,rfl,rfl,trivial⟩,⟨rfl,pR _⟩,rfl,trivial⟩
theorem SN(xs:List aj)(us:List Value)(y:Int)(hdr:Value)(hy:zx xs us y 5 3 hdr)(hd:(ah xs y).data.length≤1048576):aA Tryz.prog 132 [.nh y 3 (ah xs y).data.length hdr] [.row 10000 111 5 aG xs us] (.sl 10001) [.row 10001 2 1 (.int .i64) (ah xs y).data [],.row 10000 111 5 aG xs us]:=
 aA.Ey (ts2:=[.row 10001 2 1 (.int .i64) (ah xs y).data []]) aJ [0] wJ (eI 10000 (aI hy (Ky (ah xs y).data hd))) rfl rfl rfl
theorem UC(xs:List aj)(us:List Value)(bk:List (El bO))(kv:List (Int×Bool))(k l v:Int)(n:Nat)(y:Int)(hdr:Value)(hl:xs.length≤1000000)(hn:n≤1000000)(hy:zx xs us y 5 3 hdr)(hd:(ah xs y).data.length≤1000000):aA Tryz.prog 78 [.ptr 10000 0,.int .i64 k,.int .i64 l,.int .i64 v,.nh y 3 (ah xs y).data.length hdr,.int .i64 (n:Nat)] (tW xs us bk kv) (.int .i64 (xs.length:Nat)) (RV 10003 (xs++[bg k l v (ah xs y).data n]) us bk kv):=by
 refine aA.intro (nt:=39) aJ mixed QN Tryz.func78 rfl rfl rfl rfl rfl rfl ?_;refine Or.inr (eI _ (eI _ (aI (SN xs us y hdr hy (by omega)) ?_)));refine aI ⟨by omega,Int.le_refl _,by omega⟩ ?_;refine aI (by show xs.length+1≤_;omega) ?_;refine aI (by kernel_rfl) ?_;refine fin [(10003,28)] (aI ?_ ?_)
 ·show IntKind.i64.wrap (((xs++[bg k l v (ah xs y).data n]).length:Nat)-1)=((xs.length:Nat):Int)∧IntKind.i64=IntKind.i64;rw[qA,qJ,qO _ (by omega)];exact⟨by omega,rfl⟩
 ·exact⟨trivial,⟨rfl,rfl,rfl,trivial⟩,⟨rfl,pR _⟩,rfl,trivial⟩
theorem FE:bK Tryz.prog 129=true:=by kernel_rfl
theorem DL(xs:List aj)(b:Int)(h:dH xs)(hb:0≤b∧b≤8)(hlv:∀i:Nat,0≤(ah xs i).2.1∧(ah xs i).2.1≤8)(hok:fP b xs=true):aA Tryz.prog 129 [.agg [.rsl aG xs],.int .i64 b] [] (.tup [.agg [.sl 10000],.bool true]) [.row 10000 111 5 aG (bY b xs) []]:=by
 refine aA.intro (nt:=43) aJ mixed FE Tryz.func129 rfl rfl rfl rfl rfl rfl ?_;refine Or.inr (eI _ (eI _ (aI (Ci xs h) ?_)));refine lp Nat (fun i=>[(14,.int .i64 (i:Nat)),(12,.sl 20000)]) (fun i=>[.dD 4 30 [.raw (.slice none 0 0)],.dD 6 30 [.sl 20000],.row 20000 111 5 aG (fK b xs i) []]) (fun i=>xs.length-i) (fun i=>i≤xs.length∧fP b (xs.take i)=true) 0 ⟨Nat.zero_le _,rfl⟩ ?_ ?_
 ·exact hd [(20000,10)] rfl (aI (aI rfl rfl) (aI rfl trivial)) ⟨trivial,⟨rfl,trivial⟩,trivial,⟨rfl,trivial⟩,⟨rfl,nP⟩,trivial⟩
 intro i ⟨hi,hi2⟩;refine aI (fun q1=> ?_) (fun q1=> ?_)
 ·have hlt:i<xs.length:=by simpa using q1
  refine aI ⟨by omega,by rw[nJ];omega⟩ ?_;refine Or.inl (eI _ (aI (BK _) ?_));have hat:ah (fK b xs i) (i:Nat)=ah xs (i:Nat):=DJ hlt;refine aI (fun q2=> ?_) (fun q2=> ?_)
  ·have q3:(!(bR (ah (fK b xs i) (i:Nat)).1))=true:=q2;rw[hat]at q3;have hlev:bR (ah xs (i:Nat)).1=false:=by simpa using q3
   refine bB (i+1) ⟨hlt,?_⟩ ?_ ?_
   ·rw[mM hlt,hi2,hlev];rfl
   ·exact hd [] rfl (aI (aI (eB (by have:=h.1;omega)) rfl) (aI rfl trivial)) ⟨trivial,⟨rfl,trivial⟩,trivial,⟨rfl,trivial⟩,⟨(DK hlt hlev).symm,nP⟩,trivial⟩
   ·show xs.length-(i+1)<xs.length-i;omega
  ·have q3:(!(bR (ah (fK b xs i) (i:Nat)).1))=false:=q2;rw[hat]at q3;have hlev:bR (ah xs (i:Nat)).1=true:=by simpa using q3
   have hl2:=hlv i;have hw:IntKind.i64.wrap ((ah xs (i:Nat)).2.1+b)=(ah xs (i:Nat)).2.1+b:=qO _ (by omega)
   have hset:(fK b xs i).set i ((ah (fK b xs i) (i:Nat)).1,IntKind.i64.wrap ((ah (fK b xs i) (i:Nat)).2.1+b),(ah (fK b xs i) (i:Nat)).2.2)=fK b xs (i+1):=by
    rw[yx hlt,hat,hw];unfold iU;rw[show bR (ah xs (i:Nat)).kind=true from hlev];rfl
   have hlv2:(ah ((fK b xs i).set i ((ah (fK b xs i) (i:Nat)).1,IntKind.i64.wrap ((ah (fK b xs i) (i:Nat)).2.1+b),(ah (fK b xs i) (i:Nat)).2.2)) (i:Nat)).2.1=(ah xs (i:Nat)).2.1+b:=by
    rw[kQ,if_pos ⟨by simp,by rw[nJ];exact hlt⟩,hat,hw]
   refine aI (fun q4=> ?_) (fun q4=> ?_)
   all_goals have q5:=q4
   all_goals replace q5:=(congrArg (fun z:Int=>decide ((8:Int)<z)) hlv2).symm.trans q5
   ·exfalso;have h1:=HZ hok (i+1);rw[mM hlt,hlev]at h1;have q6:(8:Int)<(ah xs (i:Nat)).2.1+b:=by simpa using q5
    simp at h1;omega
   ·have hle:(ah xs (i:Nat)).2.1+b≤8:=by simpa using q5
    refine bB (i+1) ⟨hlt,?_⟩ ?_ ?_
    ·rw[mM hlt,hi2,hlev];simpa using hle
    ·exact hd [] rfl (aI (aI (eB (by have:=h.1;omega)) rfl) (aI rfl trivial)) ⟨trivial,⟨rfl,trivial⟩,trivial,⟨rfl,trivial⟩,⟨hset,nP⟩,trivial⟩
    ·show xs.length-(i+1)<xs.length-i;omega
 ·have hge:xs.length≤i:=by
   have q2:decide (((i:Nat):Int)<((fK b xs 0).length:Nat))=false:=q1;rw[nJ]at q2;simpa using q2
  have hie:i=xs.length:=by omega
  refine fin [(10000,20000)] (aI rfl ?_);refine⟨⟨?_,nP⟩,trivial⟩;show fK b xs i=bY b xs;rw[hie];unfold fK bY;simp
theorem JV(xs:List aj)(b:Int)(h:dH xs)(hb:0≤b∧b≤8)(hlv:∀i:Nat,0≤(ah xs i).2.1∧(ah xs i).2.1≤8)(hok:fP b xs=false):aA Tryz.prog 129 [.agg [.rsl aG xs],.int .i64 b] [] (.tup [.agg [.raw (.slice none 0 0)],.bool false]) []:=by
 refine aA.intro (nt:=43) aJ mixed FE Tryz.func129 rfl rfl rfl rfl rfl rfl ?_;refine Or.inr (eI _ (eI _ (aI (Ci xs h) ?_)));refine lp Nat (fun i=>[(14,.int .i64 (i:Nat)),(12,.sl 20000)]) (fun i=>[.dD 4 30 [.raw (.slice none 0 0)],.dD 6 30 [.sl 20000],.row 20000 111 5 aG (fK b xs i) []]) (fun i=>xs.length-i) (fun i=>i≤xs.length∧fP b (xs.take i)=true) 0 ⟨Nat.zero_le _,rfl⟩ ?_ ?_
 ·exact hd [(20000,10)] rfl (aI (aI rfl rfl) (aI rfl trivial)) ⟨trivial,⟨rfl,trivial⟩,trivial,⟨rfl,trivial⟩,⟨rfl,nP⟩,trivial⟩
 intro i ⟨hi,hi2⟩;refine aI (fun q1=> ?_) (fun q1=> ?_)
 ·have hlt:i<xs.length:=by simpa using q1
  refine aI ⟨by omega,by rw[nJ];omega⟩ ?_;refine Or.inl (eI _ (aI (BK _) ?_));have hat:ah (fK b xs i) (i:Nat)=ah xs (i:Nat):=DJ hlt;refine aI (fun q2=> ?_) (fun q2=> ?_)
  ·have q3:(!(bR (ah (fK b xs i) (i:Nat)).1))=true:=q2;rw[hat]at q3;have hlev:bR (ah xs (i:Nat)).1=false:=by simpa using q3
   refine bB (i+1) ⟨hlt,?_⟩ ?_ ?_
   ·rw[mM hlt,hi2,hlev];rfl
   ·exact hd [] rfl (aI (aI (eB (by have:=h.1;omega)) rfl) (aI rfl trivial)) ⟨trivial,⟨rfl,trivial⟩,trivial,⟨rfl,trivial⟩,⟨(DK hlt hlev).symm,nP⟩,trivial⟩
   ·show xs.length-(i+1)<xs.length-i;omega
  ·have q3:(!(bR (ah (fK b xs i) (i:Nat)).1))=false:=q2;rw[hat]at q3;have hlev:bR (ah xs (i:Nat)).1=true:=by simpa using q3
   have hl2:=hlv i;have hw:IntKind.i64.wrap ((ah xs (i:Nat)).2.1+b)=(ah xs (i:Nat)).2.1+b:=qO _ (by omega)
   have hset:(fK b xs i).set i ((ah (fK b xs i) (i:Nat)).1,IntKind.i64.wrap ((ah (fK b xs i) (i:Nat)).2.1+b),(ah (fK b xs i) (i:Nat)).2.2)=fK b xs (i+1):=by
    rw[yx hlt,hat,hw];unfold iU;rw[show bR (ah xs (i:Nat)).kind=true from hlev];rfl
   have hlv2:(ah ((fK b xs i).set i ((ah (fK b xs i) (i:Nat)).1,IntKind.i64.wrap ((ah (fK b xs i) (i:Nat)).2.1+b),(ah (fK b xs i) (i:Nat)).2.2)) (i:Nat)).2.1=(ah xs (i:Nat)).2.1+b:=by
    rw[kQ,if_pos ⟨by simp,by rw[nJ];exact hlt⟩,hat,hw]
   refine aI (fun q4=> ?_) (fun q4=> ?_)
   all_goals have q5:=q4
   all_goals replace q5:=(congrArg (fun z:Int=>decide ((8:Int)<z)) hlv2).symm.trans q5
   ·refine fin [] (aI rfl trivial)
   ·have hle:(ah xs (i:Nat)).2.1+b≤8:=by simpa using q5
    refine bB (i+1) ⟨hlt,?_⟩ ?_ ?_
    ·rw[mM hlt,hi2,hlev];simpa using hle
    ·exact hd [] rfl (aI (aI (eB (by have:=h.1;omega)) rfl) (aI rfl trivial)) ⟨trivial,⟨rfl,trivial⟩,trivial,⟨rfl,trivial⟩,⟨hset,nP⟩,trivial⟩
    ·show xs.length-(i+1)<xs.length-i;omega
 ·have hge:xs.length≤i:=by
   have q2:decide (((i:Nat):Int)<((fK b xs 0).length:Nat))=false:=q1;rw[nJ]at q2;simpa using q2
  have hie:i=xs.length:=by omega
  exfalso;rw[hie,List.take_length]at hi2;rw[hi2]at hok;cases hok
theorem M5:bK Tryz.prog 72=true:=by kernel_rfl
theorem Cc(xs:List aj)(p:Int×Int)(h1:0≤p.1∧p.1<(xs.length:Nat))(h2:0≤p.2∧p.2<(xs.length:Nat)):aN Tryz.prog 37 [.rp bO xs,vP p] (.tup [.int .i64 (bJ (ah xs p.1) (ah xs p.2)).1,.bool (bJ (ah xs p.1) (ah xs p.2)).2]):=Pv xs p h1 h2
theorem Vp(xs:List aj)(bk:List (List aj))(m:Value)(p:Int×Int)(h1:0≤p.1∧p.1<(xs.length:Nat))(h2:0≤p.2∧p.2<(xs.length:Nat))(hb:FY bk)(hs:∀i:Nat,dH (bP bk i))
  (hx:(bJ (ah xs p.1) (ah xs p.2)).1=7→0≤(ah xs (bif (bJ (ah xs p.1) (ah xs p.2)).2 then p.2 else p.1)).2.2.1∧0≤(ah xs (bif (bJ (ah xs p.1) (ah xs p.2)).2 then p.2 else p.1)).2.1∧(ah xs (bif (bJ (ah xs p.1) (ah xs p.2)).2 then p.2 else p.1)).2.1≤8):
  aN Tryz.prog 72 [.rp Yf (xs,(bk,m)),vP p] (.tup [.int .i64 (checkN bk xs p).1,.int .i64 (checkN bk xs p).2.1,.int .i64 (checkN bk xs p).2.2.1,.int .i64 (checkN bk xs p).2.2.2]):=by
 refine aN.intro (nt:=67) aJ mixed M5 Tryz.func72 rfl rfl rfl rfl rfl ?_;refine Or.inl (eI _ (aI (Cc xs p h1 h2) ?_));refine aI (by kernel_rfl) ?_;refine aI (by kernel_rfl) ?_;generalize hc:bJ (ah xs p.1) (ah xs p.2)=c at*
 have hbk:∀x:Int,0≤x→(∀j:Nat,0≤(ah (bP bk x) j).2.1∧(ah (bP bk x) j).2.1≤8)∧dH (bP bk x):=fun x h=>by
  have e:bP bk x=bP bk (x.toNat:Nat):=by unfold bP;exact Mk (by omega)
  rw[e];exact⟨hb _,hs _⟩
 refine aI (fun q1=> ?_) (fun q1=> ?_)
 ·have q1':c.2=true:=q1;rw[q1']at hx;have hx7:c.1=7→0≤(ah xs p.2).2.2.1∧0≤(ah xs p.2).2.1∧(ah xs p.2).2.1≤8:=hx;refine aI (fun q2=> ?_) (fun q2=> ?_)
  ·have q2':c.1=8:=by have q3:(c.1==8)=true:=q2;simpa using q3
   have e:checkN bk xs p=(0,0,0,11):=by simp[checkN,hc,q1',q2']
   rw[e];exact rfl
  have q2':c.1≠8:=by have q3:(c.1==8)=false:=q2;simpa using q3
  refine aI (fun q3=> ?_) (fun q3=> ?_)
  ·have q3':c.1=7:=by have q4:(c.1==7)=true:=q3;simpa using q4
   obtain⟨v0,l0,l1⟩:=hx7 q3';refine aI h2 ?_;refine aI (by kernel_rfl) ?_;refine aI (fun q4=> ?_) (fun q4=> ?_)
   ·have q4':(bk.length:Int)≤(ah xs p.2).2.2.1:=by have q5:decide ((bk.length:Int)≤(ah xs p.2).2.2.1)=true:=q4;simpa using q5
    have e:checkN bk xs p=(0,0,0,3):=by simp[checkN,hc,q1',q3',q4']
    rw[e];exact rfl
   have q4':(ah xs p.2).2.2.1<(bk.length:Nat):=by have q5:decide ((bk.length:Int)≤(ah xs p.2).2.2.1)=false:=q4;simpa using q5
   have q4n:¬((bk.length:Int)≤(ah xs p.2).2.2.1):=by omega
   refine aI ⟨v0,q4'⟩ ?_;obtain⟨k1,k2⟩:=hbk _ v0;cases hso:fP (ah xs p.2).2.1 (bP bk (ah xs p.2).2.2.1)with
   |true=>
    refine Or.inr (eI _ (eI _ (aI (DL (bP bk (ah xs p.2).2.2.1) (ah xs p.2).2.1 k2 ⟨l0,l1⟩ k1 hso) ?_)));refine aI (by kernel_rfl) ?_;refine aI (fun q5=>by cases q5) (fun q5=> ?_);have e:checkN bk xs p=(c.1,p.2,p.1,0):=by simp[checkN,hc,q1',q3',q4n,hso]
    rw[e];exact rfl
   |false=>
    refine Or.inr (eI _ (eI _ (aI (JV (bP bk (ah xs p.2).2.2.1) (ah xs p.2).2.1 k2 ⟨l0,l1⟩ k1 hso) ?_)));refine aI (by kernel_rfl) ?_;refine aI (fun q5=> ?_) (fun q5=>by cases q5);have e:checkN bk xs p=(0,0,0,9):=by simp[checkN,hc,q1',q3',q4n,hso]
    rw[e];exact rfl
  ·have q3':c.1≠7:=by have q4:(c.1==7)=false:=q3;simpa using q4
   have e:checkN bk xs p=(c.1,p.2,p.1,0):=by have b2:(c.1==8)=false:=q2;have b3:(c.1==7)=false:=q3;simp only[checkN,hc,q1',b2,b3,qG,qH]
   rw[e];exact rfl
 ·have q1':c.2=false:=q1;rw[q1']at hx;have hx7:c.1=7→0≤(ah xs p.1).2.2.1∧0≤(ah xs p.1).2.1∧(ah xs p.1).2.1≤8:=hx;refine aI (fun q2=> ?_) (fun q2=> ?_)
  ·have q2':c.1=8:=by have q3:(c.1==8)=true:=q2;simpa using q3
   have e:checkN bk xs p=(0,0,0,11):=by simp[checkN,hc,q1',q2']
   rw[e];exact rfl
  have q2':c.1≠8:=by have q3:(c.1==8)=false:=q2;simpa using q3
  refine aI (fun q3=> ?_) (fun q3=> ?_)
  ·have q3':c.1=7:=by have q4:(c.1==7)=true:=q3;simpa using q4
   obtain⟨v0,l0,l1⟩:=hx7 q3';refine aI h1 ?_;refine aI (by kernel_rfl) ?_;refine aI (fun q4=> ?_) (fun q4=> ?_)
   ·have q4':(bk.length:Int)≤(ah xs p.1).2.2.1:=by have q5:decide ((bk.length:Int)≤(ah xs p.1).2.2.1)=true:=q4;simpa using q5
    have e:checkN bk xs p=(0,0,0,3):=by simp[checkN,hc,q1',q3',q4']
    rw[e];exact rfl
   have q4':(ah xs p.1).2.2.1<(bk.length:Nat):=by have q5:decide ((bk.length:Int)≤(ah xs p.1).2.2.1)=false:=q4;simpa using q5
   have q4n:¬((bk.length:Int)≤(ah xs p.1).2.2.1):=by omega
   refine aI ⟨v0,q4'⟩ ?_;obtain⟨k1,k2⟩:=hbk _ v0;cases hso:fP (ah xs p.1).2.1 (bP bk (ah xs p.1).2.2.1)with
   |true=>
    refine Or.inr (eI _ (eI _ (aI (DL (bP bk (ah xs p.1).2.2.1) (ah xs p.1).2.1 k2 ⟨l0,l1⟩ k1 hso) ?_)));refine aI (by kernel_rfl) ?_;refine aI (fun q5=>by cases q5) (fun q5=> ?_);have e:checkN bk xs p=(c.1,p.1,p.2,0):=by simp[checkN,hc,q1',q3',q4n,hso]
    rw[e];exact rfl
   |false=>
    refine Or.inr (eI _ (eI _ (aI (JV (bP bk (ah xs p.1).2.2.1) (ah xs p.1).2.1 k2 ⟨l0,l1⟩ k1 hso) ?_)));refine aI (by kernel_rfl) ?_;refine aI (fun q5=> ?_) (fun q5=>by cases q5);have e:checkN bk xs p=(0,0,0,9):=by simp[checkN,hc,q1',q3',q4n,hso]
    rw[e];exact rfl
  ·have q3':c.1≠7:=by have q4:(c.1==7)=false:=q3;simpa using q4
   have e:checkN bk xs p=(c.1,p.1,p.2,0):=by have b2:(c.1==8)=false:=q2;have b3:(c.1==7)=false:=q3;simp only[checkN,hc,q1',b2,b3,qG,qH]
   rw[e];exact rfl
theorem QV:bK Tryz.prog 74=true:=by kernel_rfl
theorem Xv(xs:List aj)(bk:List (List aj))(m:Value)(c x y:Int)(hx:0≤x∧x<(xs.length:Nat))(hy:0≤y∧y<(xs.length:Nat))(h7:c=7→0≤(ah xs x).2.2.1∧(ah xs x).2.2.1<(bk.length:Nat)):
  aN Tryz.prog 74 [.rp Yf (xs,(bk,m)),.int .i64 c,.int .i64 x,.int .i64 y] (.int .i64 (r9 bk xs c x y)):=by
 refine aN.intro (nt:=76) aJ mixed QV Tryz.func74 rfl rfl rfl rfl rfl ?_;refine aI (fun q1=> ?_) (fun q1=> ?_)
 ·refine aI (fun _=> ?_) (fun h=>by rw[show(c==3)=true from q1]at h;cases h);refine aI hy ?_;refine Or.inl (eI _ (aI (xg _ _) ?_));refine⟨?_,rfl⟩;simp only[r9,q1,qG];rfl
 refine aI (fun q2=> ?_) (fun q2=> ?_)
 ·refine aI hy ?_;refine Or.inl (eI _ (aI (xg _ _) ?_));refine⟨?_,rfl⟩;simp only[r9,q1,q2,qG,qH];rfl
 refine aI (fun q3=> ?_) (fun q3=> ?_)
 ·refine aI hx ?_;refine aI (fun q4=> ?_) (fun q4=> ?_)
  ·refine aI hx ?_;refine Or.inl (eI _ (aI (xg _ _) ?_));refine⟨?_,rfl⟩;have q4':((ah xs x).1==9)=true:=q4;simp only[r9,q1,q2,q3,q4',qG,qH];rfl
  ·refine Or.inl (eI _ (aI (xg _ _) ?_));refine⟨?_,rfl⟩;have q4':((ah xs x).1==9)=false:=q4;simp only[r9,q1,q2,q3,q4',qG,qH]
 refine aI (fun q4=> ?_) (fun q4=> ?_)
 ·have q4':c=7:=by have q5:(c==7)=true:=q4;simpa using q5
  refine aI hx ?_;refine aI (h7 q4') ?_;refine aI (by kernel_rfl) ?_;refine Or.inl (eI _ (aI (xg _ _) ?_));refine⟨?_,rfl⟩;simp only[r9,q1,q2,q3,q4,qG,qH];rfl
 ·refine Or.inl (eI _ (aI (xg _ _) ?_));refine⟨?_,rfl⟩;simp only[r9,q1,q2,q3,q4,qG,qH]
theorem QT:bK Tryz.prog 81=true:=by kernel_rfl
def NZ(g:Nat)(bk:List (List aj))(kv:List (Int×Bool))(q:aD)(l:List Tok):List Tok:=.dD 10000 78 [.sl g,.rsl bO bk,.mp 10002]:: .map 10002 .bool kv:: .dD 6 30 [.sl 38]:: .dD 9 86 [.int .i64 q.1,.int .i64 q.2]::l
def Yp(g:Nat)(xs:List aj)(us:List Value)(hs:List (El (hol 5)))(ys:List aj)(usB:List Value):List Tok:=[.row g 111 5 (hol 5) (kV xs.length us++hs) us,.nest 20001 aG xs us,.row 38 111 5 aG ys usB]
def ZT(b:Int)(t xs:List aj)(us:List Value)(bk:List (List aj))(kv:List (Int×Bool))(q:aD)(s:Nat×List Value):List Tok:=match s.1 with
 |0=>NZ 20000 bk kv q [.row 20000 111 5 aG xs us,.row 38 111 5 aG t []]
 |k+1=>NZ 20000 bk kv q (Yp 20000 xs us (KE t s.2 (k+1)) (sS b t (k+1)) s.2)
def ZR(b:Int)(t xs:List aj)(us:List Value)(bk:List (List aj))(kv:List (Int×Bool))(q:aD)(s:Nat×List Value)(K:List Tok→Prop):Prop:=
 (s.1+1<t.length→∀usB:List Value,(s.1=0→usB.length=t.length*5)→(s.1≠0→usB=s.2)→K (NZ 20000 bk kv q (Yp 20000 xs us (KE t usB s.1) (sS b t s.1) usB)))∧
 (t.length≤s.1+1→(t.length=s.1+1∧s.2.length=t.length*5)∧K (NZ 20000 bk kv q [.row 20000 111 5 aG (xs++(sS b t s.1).drop 1) us]))
theorem y7{β:Nat→Value}{cx:Cx}{g:Nat}{bk:List (List aj)}{kv:List (Int×Bool)}{q:aD}{l:List Tok}{R:List fH}:(((NZ g bk kv q l).map (Tok.res cx β))++R).Perm (l.map (Tok.res cx β)++((NZ g bk kv q []).map (Tok.res cx β)++R)):=by
 have:((NZ g bk kv q []).map (Tok.res cx β)++(l.map (Tok.res cx β)++R)).Perm (l.map (Tok.res cx β)++((NZ g bk kv q []).map (Tok.res cx β)++R)):=by
  rw[←qF,←qF];exact List.Perm.append_right _ List.perm_append_comm
 exact this
theorem Xu{b:Int}{t xs:List aj}{us:List Value}{bk:List (List aj)}{kv:List (Int×Bool)}{q:aD}(hl:us.length=xs.length*5)(h2:2≤t.length)(s:Nat×List Value)(K:List Tok→Prop)(cx:Cx)(β:Nat→Value)(w:World)(R:List fH)
  (h:ZR b t xs us bk kv q s K) (hI:Inv cx.w0 cx.F0 w ((ZT b t xs us bk kv q s).map (Tok.res cx β)++R)):∃rs',K rs'∧Inv cx.w0 cx.F0 w (rs'.map (Tok.res cx β)++R):=by
 obtain⟨k,usB⟩:=s
 match k with
 |0=>
  have h1:=h.1 (by show 0+1<t.length;omega);have hI1:=hI.perm y7;have hI2:Inv cx.w0 cx.F0 w (Tok.res cx β (.row 20000 111 5 aG xs us)::(Tok.res cx β (.row 38 111 5 aG t [])::((NZ 20000 bk kv q []).map (Tok.res cx β)++R))):=hI1;have hI3:=Inv.VE (n:=20001) hI2 hl;have hI4:=hI3.perm ((List.Perm.cons _ (List.Perm.swap _ _ _)).trans (List.Perm.swap _ _ _));obtain⟨F,⟨hus,bs,raw,e,hg,hpre⟩,k2,_⟩:=Inv.take1 (r:=Tok.res cx β (.row 38 111 5 aG t [])) hI4;have hI5:Inv cx.w0 cx.F0 w (Tok.res cx β (.row 38 111 5 aG t raw)::_):=k2 _ F (fun _ h=>h) ⟨hus,bs,raw,e,hg,pR _⟩
  have hI6:=hI5.perm ((List.Perm.swap _ _ _).trans (List.Perm.cons _ (List.Perm.swap _ _ _)));refine⟨_,h1 raw (fun _=>hg.row.1) (fun h=>absurd rfl h),Inv.perm (rs:=(Yp 20000 xs us (KE t raw 0) (sS b t 0) raw).map (Tok.res cx β)++((NZ 20000 bk kv q []).map (Tok.res cx β)++R)) ?_ y7.symm⟩;show Inv cx.w0 cx.F0 w (Tok.res cx β (.row 20000 111 5 (hol 5) (kV xs.length us++[]) us)::(Tok.res cx β (.nest 20001 aG xs us)::(Tok.res cx β (.row 38 111 5 aG t raw)::((NZ 20000 bk kv q []).map (Tok.res cx β)++R))));rw[qS];exact hI6
 |k+1=>
  by_cases hk:k+1+1<t.length
  ·exact⟨_,h.1 hk usB (fun e=>by cases e) (fun _=>rfl),hI⟩
  ·obtain⟨⟨hk2,h3⟩,h4⟩:=h.2 (by show t.length≤k+1+1;omega);have hm:(sS b t (k+1)).length=t.length:=sD _;have hk3:t.length=k+1+1:=hk2;have hI2:Inv cx.w0 cx.F0 w (Tok.res cx β (.row 20000 111 5 (hol 5) (kV xs.length us++KE t usB (k+1)) us)::(Tok.res cx β (.nest 20001 aG xs us)::(Tok.res cx β (.row 38 111 5 aG (sS b t (k+1)) usB)::((NZ 20000 bk kv q []).map (Tok.res cx β)++R)))):=hI.perm y7;have hI3:=Inv.merge hI2 hl (by rw[hm];exact h3) (by omega) (by rw[hm,hk3];exact Tj _);exact⟨_,h4,Inv.perm hI3 (y7 (l:=[.row 20000 111 5 aG (xs++(sS b t (k+1)).drop 1) us])).symm⟩
theorem Zl(t0:List aj)(xs:List aj)(us:List Value)(bk:List (List aj))(kv:List (Int×Bool))(x y:Int)(hx:0≤x∧x<(xs.length:Nat))(hv:0≤(ah xs x).2.2.1∧(ah xs x).2.2.1<(bk.length:Nat))(ht0:bP bk (ah xs x).2.2.1=t0)(hl:xs.length≤900000)(hs:dH t0)(ht:2≤t0.length)(htl:t0.length≤1000)(hr:ak t0 (0,0))(hlv:0≤(ah xs x).2.1∧(ah xs x).2.1≤8)(hlt8:∀i:Nat,0≤(ah t0 i).2.1∧(ah t0 i).2.1≤8)
  (hok:fP (ah xs x).2.1 t0=true) (hpt:∀i j:Nat,sV (elt (dflt aR) (ah (bY (ah xs x).2.1 t0) (i:Nat)).2.2.2.2 (j:Nat)).1) (hps:∀i:Nat,(ah (bY (ah xs x).2.1 t0) (i:Nat)).2.2.2.2.length≤1048576) (hr2:ak (bY (ah xs x).2.1 t0) (0,0))
  (hy:ak (xs++((kY bk xs x).drop 1).map (bW ((xs.length:Nat)-1))) (y,0)) (htop:ak (xs++((kY bk xs x).drop 1).map (bW ((xs.length:Nat)-1))) ((au (kY bk xs x) (0,0)).1+((xs.length:Nat)-1),(au (kY bk xs x) (0,0)).2)):
  aA Tryz.prog 81 [.ptr 10000 0,.int .i64 x,.int .i64 y] (tW xs us bk kv) (.tup []) (RV 10003 (mF bk xs x y) us bk kv):=by
 refine aA.jy 10001 QT ?_;refine aI (fun _ us' hpre hlen=> ?_) (fun h=>absurd rfl h);have hT:kY bk xs x=bY (ah xs x).2.1 t0:=by unfold kY;rw[ht0]
 have hq:aA Tryz.prog 95 [.ptr 10000 0,vP (0,0)] [.dD 10000 30 [.sl 10001],.row 10001 111 5 aG (bY (ah xs x).2.1 t0) []] (vP (au (bY (ah xs x).2.1 t0) (0,0))) [.dD 10000 30 [.sl 10001],.row 10001 111 5 aG (bY (ah xs x).2.1 t0) []]:=
  aA.o9 aJ [51,0] KX (Bg _ _ hr2) rfl
 rw[hT]at hy htop;have hsh:=DL t0 (ah xs x).2.1 hs hlv hlt8 hok;generalize hte:bY (ah xs x).2.1 t0=t at*;have htn:t.length=t0.length:=by rw[←hte];unfold bY;simp
 generalize hqe:au t (0,0)=q at*;refine aA.intro (nt:=101) aJ mixed QT Tryz.func81 rfl rfl rfl rfl rfl rfl ?_;refine aI hx ?_;refine aI hv ?_;refine aI hx ?_;have hsh2:aA Tryz.prog 129 [.agg [.rsl aG (bP bk (ah xs x).2.2.1)],.int .i64 (ah xs x).2.1] [] (.tup [.agg [.sl 10000],.bool true]) [.row 10000 111 5 aG t []]:=by rw[ht0];exact hsh
 refine Or.inr (eI _ (eI _ (aI hsh2 ?_)));refine aI (by kernel_rfl) ?_;refine Or.inr (eI _ (eI _ (aI hq ?_)));refine aI (show(0:Int)≤1∧(1:Int)<(t.length:Nat) by omega) ?_;have hwb:IntKind.i64.wrap ((xs.length:Nat)-1)=((xs.length:Nat)-1:Int):=qO _ (by omega);generalize hbe:((xs.length:Nat)-1:Int)=b at*;refine lpG (Nat×List Value) (fun s=>[(54,.int .i64 (s.1:Nat)),(8,.int .i64 b)]) (ZT b t xs us' bk kv q) (fun s=>t.length-s.1) (fun s=>s.1+1≤t.length∧(s.1≠0→s.2.length=t.length*5)) (0,[]) (ZR b t xs us' bk kv q) (Xu hlen (by omega)) ⟨by show 0+1≤_;omega,fun h=>absurd rfl h⟩ ?_ ?_
 ·exact hd [(20000,10001)] rfl (aI (aI rfl rfl) (aI (aI hwb rfl) trivial)) ⟨trivial,⟨rfl,rfl,rfl,trivial⟩,rfl,trivial,⟨rfl,trivial⟩,trivial,⟨⟨rfl,rfl⟩,⟨rfl,rfl⟩,trivial⟩,⟨rfl,pR _⟩,⟨rfl,nP⟩,trivial⟩
 intro s ⟨hs1,hs2⟩;refine aI (fun hlt usB hB0 hB1=> ?_) (fun hge=>aI ?_ ?_)
 ·have hB:usB.length=t.length*5:=by
   by_cases h:s.1=0
   ·exact hB0 h
   ·rw[hB1 h];exact hs2 h
  obtain⟨k,usS⟩:=s;refine aI (fun q1=> ?_) (fun q1=> ?_)
  ·have hlt':k+1<t.length:=hlt;have hi0:(0:Int)≤((1+k:Nat):Int):=by omega
   have hi1:((1+k:Nat):Int)<((sS b t k).length:Nat):=by rw[sD];omega
   have hBm:usB.length=(sS b t k).length*5:=by rw[sD];exact hB
   refine aI (show(0:Int)≤(k:Nat)∧((k:Nat):Int)<((t.length-1:Nat):Int) by omega) ?_;refine aI (sJ hBm hi0 hi1) ?_;refine lp Nat (fun j=>[(61,.int .i64 (j:Nat))]) (fun j=>.dD 11 111 [.int .i64 (ah (sS b t k) ((1+k:Nat):Int)).1,.int .i64 (ah (sS b t k) ((1+k:Nat):Int)).2.1,.int .i64 (ah (sS b t k) ((1+k:Nat):Int)).2.2.1,.nh ((1+k:Nat):Int) 3 (ah (sS b t k) ((1+k:Nat):Int)).2.2.2.1.length (usB.getD ((1+k)*5+3) undef),.nh ((1+k:Nat):Int) 4 (ah (sS b t k) ((1+k:Nat):Int)).2.2.2.2.length (usB.getD ((1+k)*5+4) undef)]::NZ 21000 bk kv q (Yp 21000 xs us' (KE t usB k) (CX b t k j) usB)) (fun j=>(ah t ((1+k:Nat):Int)).2.2.2.2.length-j) (fun j=>j≤(ah t ((1+k:Nat):Int)).2.2.2.2.length) 0 (Nat.zero_le _) ?_ ?_
   ·exact hd [(21000,20000)] rfl (aI (aI rfl rfl) trivial) ⟨trivial,⟨⟨rfl,rfl⟩,⟨rfl,rfl⟩,⟨rfl,rfl⟩,rfl,rfl,trivial⟩,trivial,⟨rfl,rfl,rfl,trivial⟩,rfl,trivial,⟨rfl,trivial⟩,trivial,⟨⟨rfl,rfl⟩,⟨rfl,rfl⟩,trivial⟩,⟨rfl,pR _⟩,⟨rfl,rfl⟩,⟨(Qx k).symm,pR _⟩,trivial⟩
   intro j hj;have hae:ah (sS b t k) ((1+k:Nat):Int)=ah t ((1+k:Nat):Int):=VL (by omega);have hi2:((1+k:Nat):Int)<((CX b t k j).length:Nat):=by rw[MQ];omega
   have hBm2:usB.length=(CX b t k j).length*5:=by rw[MQ];exact hB
   refine aI (fun q3=> ?_) (fun q3=> ?_)
   ·have hlt2:j<(ah t ((1+k:Nat):Int)).2.2.2.2.length:=by
     have q4:decide (((j:Nat):Int)<((ah (sS b t k) ((1+k:Nat):Int)).2.2.2.2.length:Nat))=true:=q3;rw[hae]at q4;simpa using q4
    have hbnd:(0:Int)≤(j:Nat)∧((j:Nat):Int)<((ah (sS b t k) ((1+k:Nat):Int)).2.2.2.2.length:Nat):=by rw[hae];omega
    have hnp:zx (CX b t k j) usB ((1+k:Nat):Int) 5 4 (usB.getD ((1+k)*5+4) undef):=⟨hi0,hi2,rJ hBm2 hi0 hi2 (by decide)⟩;have hpv:sV (elt (dflt aR) (ah t ((1+k:Nat):Int)).2.2.2.2 (j:Nat)).1:=hpt (1+k) j;unfold sV at hpv;have hpl:=hps (1+k)
    have hw:IntKind.i64.wrap ((elt (dflt aR) (ah (CX b t k j) ((1+k:Nat):Int)).2.2.2.2 (j:Nat)).1+b)=(elt (dflt aR) (ah t ((1+k:Nat):Int)).2.2.2.2 (j:Nat)).1+b:=by
     rw[VK (by omega) hlt2];exact qO _ (by omega)
    refine aI hbnd ?_;refine eI 38 (aI ⟨hnp,hbnd⟩ ?_);refine aI hbnd ?_;refine eI 38 (aI ⟨hnp,hbnd⟩ ?_);refine bB (j+1) hlt2 ?_ ?_
    ·refine hd [] rfl (aI (aI (eB (by omega)) rfl) trivial) ⟨trivial,⟨⟨rfl,rfl⟩,⟨rfl,rfl⟩,⟨rfl,rfl⟩,rfl,rfl,trivial⟩,trivial,⟨rfl,rfl,rfl,trivial⟩,rfl,trivial,⟨rfl,trivial⟩,trivial,⟨⟨rfl,rfl⟩,⟨rfl,rfl⟩,trivial⟩,⟨rfl,pR _⟩,⟨rfl,rfl⟩,⟨Qw (by omega) hlt2 hw,pR _⟩,trivial⟩
    ·show(ah t ((1+k:Nat):Int)).2.2.2.2.length-(j+1)<(ah t ((1+k:Nat):Int)).2.2.2.2.length-j;omega
   have hje:j=(ah t ((1+k:Nat):Int)).2.2.2.2.length:=by
    have q4:decide (((j:Nat):Int)<((ah (sS b t k) ((1+k:Nat):Int)).2.2.2.2.length:Nat))=false:=q3;rw[hae]at q4;have q5:(ah t ((1+k:Nat):Int)).2.2.2.2.length≤j:=by simpa using q4
    omega
   refine aI (show(kV xs.length us'++KE t usB k).length+1≤_ by rw[qA,xq,Tk];omega) ?_;refine aI (by kernel_rfl) ?_;refine Qs (k+1,usB) ⟨by show k+1+1≤t.length;omega,fun _=>hB⟩ ?_ ?_
   ·refine hd [(20000,83)] rfl (aI (aI (eB (by omega)) rfl) (aI (aI rfl rfl) trivial)) ⟨trivial,⟨rfl,rfl,rfl,trivial⟩,rfl,trivial,⟨rfl,trivial⟩,trivial,⟨⟨rfl,rfl⟩,⟨rfl,rfl⟩,trivial⟩,⟨?_,pR _⟩,⟨rfl,rfl⟩,⟨?_,pR _⟩,trivial⟩
    ·show(kV xs.length us'++KE t usB k)++([(Value.int .i64 (ah (sS b t k) ((1+k:Nat):Int)).1,Value.int .i64 (ah (sS b t k) ((1+k:Nat):Int)).2.1,Value.int .i64 (ah (sS b t k) ((1+k:Nat):Int)).2.2.1,usB.getD ((1+k)*5+3) undef,usB.getD ((1+k)*5+4) undef)]:List (El (hol 5)))=kV xs.length us'++KE t usB (k+1);rw[PW,qF,hae];rfl
    ·show CX b t k j=sS b t (k+1);rw[hje,TJ]
   ·show t.length-(k+1)<t.length-k;omega
  ·exfalso;have q2:decide (((k:Nat):Int)<((t.length-1:Nat):Int))=false:=q1;have q3:((t.length-1:Nat):Int)≤((k:Nat):Int):=by simpa using q2
   have hlt':k+1<t.length:=hlt;omega
 ·have h1:t.length≤s.1+1:=hge;exact⟨by omega,hs2 (by omega)⟩
 refine aI (fun q1=> ?_) (fun q1=> ?_)
 ·exfalso;have q2:decide (((s.1:Nat):Int)<((t.length-1:Nat):Int))=true:=q1;have q3:((s.1:Nat):Int)<((t.length-1:Nat):Int):=by simpa using q2
  have h1:t.length≤s.1+1:=hge;omega
 have h1:t.length≤s.1+1:=hge;have hse:s.1=t.length-1:=by omega
 have hdr:(sS b t s.1).drop 1=(t.drop 1).map (bW b):=by rw[hse];exact Qz
 have hw:IntKind.i64.wrap (q.1+b)=q.1+b:=qO _ (by
  have:=htop.1;have h2:=htop.2.1;simp only[qA,qV,List.length_drop]at h2;omega)
 rw[←hdr]at hy htop;have hlk:=Fv (xs++(sS b t s.1).drop 1) us' bk kv (y,0) (q.1+b,q.2) hy htop;rw[←hw]at hlk;refine Or.inr (eI _ (eI _ (aI hlk ?_)));refine aI (by kernel_rfl) ?_;refine fin [(10003,20000)] (aI rfl ?_);refine⟨trivial,⟨rfl,rfl,rfl,trivial⟩,⟨?_,hpre⟩,rfl,trivial⟩;show bL (xs++(sS b t s.1).drop 1) (y,0) (IntKind.i64.wrap (q.1+b),q.2)=mF bk xs x y;unfold mF;rw[hw,hT,hdr,hqe,hbe]
theorem PE(xs:List aj)(us:List Value)(bk:List (El bO))(kv:List (Int×Bool)):aA Tryz.prog 73 [.ptr 10000 0] (tW xs us bk kv) (.int .i64 (IntKind.i64.wrap ((xs.length:Nat)-(kv.length:Nat)))) (tW xs us bk kv):=by
 refine aA.intro (nt:=15) aJ mixed (by kernel_rfl) Tryz.func73 rfl rfl rfl rfl rfl rfl ?_;refine aI (by kernel_rfl) ?_;refine fin [] (aI ⟨rfl,rfl⟩ ?_);exact⟨trivial,⟨rfl,rfl,rfl,trivial⟩,⟨rfl,pR _⟩,rfl,trivial⟩
theorem xS(g:Nat)(xs:List aj)(us:List Value)(bk:List (El bO))(kv:List (Int×Bool))(p q:aD)(h:bf xs)(hp:ak xs p)(hq:ak xs q):aA Tryz.prog 77 [.ptr 10000 0,vP p,vP q] (tW xs us bk kv) (.tup []) (tW (dA xs p q) us bk kv):=XY xs us bk kv p q hp (h p hp) hq
theorem QX:bK Tryz.prog 79=true:=by kernel_rfl
theorem XH(xs:List aj)(us:List Value)(bk:List (El bO))(kv:List (Int×Bool))(x y:Int)(hA:bf xs)(h0:ak xs (0,0))(hl:xs.length≤900000)(hx:0≤x∧x<(xs.length:Nat))(h1:ak xs (y,1))(h2:(ah xs y).1=7→ak xs (y,2))(h3:(ah xs y).1≠7→0<(ah xs y).2.2.2.1.length):
  aA Tryz.prog 79 [.ptr 10000 0,.int .i64 x,.int .i64 y] (tW xs us bk kv) (.tup []) (RV 10003 (bG xs x y) us bk kv):=by
 have hy:0≤y∧y<(xs.length:Nat):=⟨h1.1,h1.2.1⟩;refine aA.expose QX ?_;intro us' hpre hlen;refine aA.intro (nt:=64) aJ mixed QX Tryz.func79 rfl rfl rfl rfl rfl rfl ?_;refine aI hx ?_;refine aI hy ?_;refine aI (sJ hlen hy.1 hy.2) ?_;refine aI (by kernel_rfl) ?_;refine aI (fun q1=> ?_) (fun q1=> ?_)
 ·have q1':(ah xs y).1=7:=by have q2:((ah xs y).1==7)=true:=q1;simpa using q2
  refine Or.inr (eI _ (eI _ (aI (Vj xs us' bk kv 8 (ah xs y).2.1 (ah xs y).2.2.1 2 [(ah xs x).2.2.1] (by omega) (by omega) (by simp)) ?_)));have hA1:=hA.add h0 8 (ah xs y).2.1 (ah xs y).2.2.1 [(ah xs x).2.2.1] 2;refine Or.inr (eI _ (eI _ (aI (xS 0 (xs++[bg 8 (ah xs y).2.1 (ah xs y).2.2.1 [(ah xs x).2.2.1] 2]) us' bk kv (y,1) ((xs.length:Nat),0) hA1 h1.app (ak.new (by decide) (by decide))) ?_)));refine Or.inr (eI _ (eI _ (aI (xS 0 _ us' bk kv (y,2) ((xs.length:Nat),1) (hA1.move h1.app (ak.new (by decide) (by decide))) ((h2 q1').app.move) ((ak.new (by decide) (by decide)).move)) ?_)))
  refine fin [(10003,36)] (aI rfl ?_);refine⟨trivial,⟨rfl,rfl,rfl,trivial⟩,⟨?_,hpre⟩,rfl,trivial⟩;show _=bG xs x y;unfold bG;rw[show((ah xs y).1==7)=true from q1];rfl
 ·have q1':(ah xs y).1≠7:=by have q2:((ah xs y).1==7)=false:=q1;simpa using q2
  refine aI ⟨by decide,by have:=h3 q1';show(0:Int)<((ah xs y).2.2.2.1.length:Nat);omega⟩ ?_;refine eI 10001 (aI ⟨⟨hy.1,hy.2,rJ hlen hy.1 hy.2 (by decide)⟩,by decide,by have:=h3 q1';show(0:Int)<((ah xs y).2.2.2.1.length:Nat);omega⟩ ?_);refine Or.inl (eI _ (aI (Rb _ _ _) ?_));refine Or.inr (eI _ (eI _ (aI (zR xs us' bk kv 6 0 (wK (ah xs y).2.2.1 (jd (ah xs y).2.2.2.1 0) (ah xs x).2.2.1) 1 (by omega) (by omega)) ?_)));have hA1:=hA.add h0 6 0 (wK (ah xs y).2.2.1 (jd (ah xs y).2.2.2.1 0) (ah xs x).2.2.1) [] 1;refine Or.inr (eI _ (eI _ (aI (xS 0 _ us' bk kv (y,1) ((xs.length:Nat),0) hA1 h1.app (ak.new (by decide) (by decide))) ?_)))
  refine aI (by kernel_rfl) ?_;refine fin [(10003,61)] (aI rfl ?_);refine⟨trivial,⟨rfl,rfl,rfl,trivial⟩,⟨?_,hpre⟩,rfl,trivial⟩;show _=bG xs x y;unfold bG;rw[show((ah xs y).1==7)=false from q1];rfl
theorem UR:bK Tryz.prog 76=true:=by kernel_rfl
theorem Zi(xs:List aj)(us:List Value)(bk:List (El bO))(kv:List (Int×Bool))(x y:Int)(hA:bf xs)(h0:ak xs (0,0))(hl:xs.length≤900000)(hx1:ak xs (x,1))(hx2:ak xs (x,2))(hy:0≤y∧y<(xs.length:Nat))(hp:(ah xs y).2.2.2.2.length≤1000)(hdt:(ah xs y).2.2.2.1.length≤1000000)(hp0:0<(ah xs y).2.2.2.2.length):
  aA Tryz.prog 76 [.ptr 10000 0,.int .i64 x,.int .i64 y] (tW xs us bk kv) (.tup []) (RV 10003 (bH xs x y) us bk kv):=by
 have hx:0≤x∧x<(xs.length:Nat):=⟨hx1.1,hx1.2.1⟩;refine aA.expose UR ?_;intro us' hpre hlen;refine aA.intro (nt:=116) aJ mixed UR Tryz.func76 rfl rfl rfl rfl rfl rfl ?_;refine aI hy ?_;refine aI (sJ hlen hy.1 hy.2) ?_;have hnp:zx xs us' y 5 3 (us'.getD (y.toNat*5+3) undef):=⟨hy.1,hy.2,rJ hlen hy.1 hy.2 (by decide)⟩;refine Or.inr (eI _ (eI _ (aI (UC xs us' bk kv (ah xs y).1 (ah xs y).2.1 (ah xs y).2.2.1 (ah xs y).2.2.2.2.length y (us'.getD (y.toNat*5+3) undef) (by omega) (by omega) hnp (by omega)) ?_)));have hag:ah (xs++[lq xs y]) y=ah xs y:=dw (by omega)
 have hnp2:zx (xs++[lq xs y]) us' y 5 3 (us'.getD (y.toNat*5+3) undef):=⟨hy.1,by rw[qA,qJ];omega,rJ hlen hy.1 hy.2 (by decide)⟩;have hadd2:=UC (xs++[lq xs y]) us' bk kv (ah xs y).1 (ah xs y).2.1 (ah xs y).2.2.1 (ah xs y).2.2.2.2.length y (us'.getD (y.toNat*5+3) undef) (by rw[qA,qJ];omega) (by omega) hnp2 (by rw[hag];omega);rw[hag,show(xs++[lq xs y]).length=xs.length+1 by simp]at hadd2;refine Or.inr (eI _ (eI _ (aI hadd2 ?_)));have hn1:(ah xs y).2.2.2.2.length-1+1=(ah xs y).2.2.2.2.length:=by omega
 have h2A:=vZ (y:=y) hA h0;have hcd:∀i:Nat,i≤(ah xs y).2.2.2.2.length-1→ak (dup2 xs y) (((xs.length:Nat):Int),(i:Nat))∧ak (dup2 xs y) (((xs.length+1:Nat):Int),(i:Nat)):=fun i hi=>⟨qb (by omega) (by omega),qg (by omega) (by omega)⟩
 refine lp Nat (fun k=>[(10,.int .i64 ((k+1:Nat):Int)),(9,.sl 20001)])
  (fun k=>[.dD 6 111 [.int .i64 (ah xs y).1,.int .i64 (ah xs y).2.1,.int .i64 (ah xs y).2.2.1,.nh y 3 (ah xs y).2.2.2.1.length (us'.getD (y.toNat*5+3) undef),.nh y 4 (ah xs y).2.2.2.2.length (us'.getD (y.toNat*5+4) undef)],
   .dD 10000 78 [.sl 20000,.rsl bO bk,.mp 10002],.row 20000 111 5 aG (dF x ((xs.length:Nat)) ((xs.length+1:Nat)) (dup2 xs y) k) us',.map 10002 .bool kv,.row 20001 2 1 (.int .i64) (je (xs.length+2) k) []])
  (fun k=>(ah xs y).2.2.2.2.length-1-k) (fun k=>k≤(ah xs y).2.2.2.2.length-1) 0 (Nat.zero_le _) ?_ ?_
 ·exact Tz [⟨9,30000,2,1,.int .i64⟩] [(20000,47),(20001,30000)] rfl (aI (aI (aI rfl rfl) (aI rfl trivial)) ⟨trivial,⟨⟨rfl,rfl⟩,⟨rfl,rfl⟩,⟨rfl,rfl⟩,rfl,rfl,trivial⟩,trivial,⟨rfl,rfl,rfl,trivial⟩,⟨rfl,pR _⟩,rfl,⟨rfl,nP⟩,trivial⟩)
 intro k hk;refine aI (fun q1=> ?_) (fun q1=> ?_)
 ·have q2:((k+1:Nat):Int)<((ah xs y).2.2.2.2.length:Nat):=by have q2:decide (((k+1:Nat):Int)<((ah xs y).2.2.2.2.length:Nat))=true:=q1;simpa using q2
  have hlt:k<(ah xs y).2.2.2.2.length-1:=by omega
  have hcl:(dF x ((xs.length:Nat)) ((xs.length+1:Nat)) (dup2 xs y) k).length=xs.length+2+k:=by rw[iM,gK]
  refine aI ⟨hx.1,by rw[hcl];omega⟩ ?_;refine Or.inr (eI _ (eI _ (aI (zR (dF x ((xs.length:Nat)) ((xs.length+1:Nat)) (dup2 xs y) k) us' bk kv 4 (ah (dF x ((xs.length:Nat)) ((xs.length+1:Nat)) (dup2 xs y) k) x).2.1 0 3 (by rw[hcl];omega) (by omega)) ?_)));have hc:=hcd (k+1) (by omega);refine Or.inr (eI _ (eI _ (aI (Fv _ us' bk kv (((dF x ((xs.length:Nat)) ((xs.length+1:Nat)) (dup2 xs y) k).length:Nat),1) (((xs.length:Nat):Int),((k+1:Nat):Int)) (ak.new (by decide) (by decide)) (bV hc.1 k).app) ?_)));refine Or.inr (eI _ (eI _ (aI (Fv (bL ((dF x ((xs.length:Nat)) ((xs.length+1:Nat)) (dup2 xs y) k)++[bg 4 (ah (dF x ((xs.length:Nat)) ((xs.length+1:Nat)) (dup2 xs y) k) x).2.1 0 [] 3]) (((dF x ((xs.length:Nat)) ((xs.length+1:Nat)) (dup2 xs y) k).length:Nat),1) (((xs.length:Nat):Int),((k+1:Nat):Int))) us' bk kv (((dF x ((xs.length:Nat)) ((xs.length+1:Nat)) (dup2 xs y) k).length:Nat),2) (((xs.length+1:Nat):Int),((k+1:Nat):Int)) (ak.link (ak.new (by decide) (by decide))) (bV hc.2 k).app.link) ?_)))
  refine aI (by show(je (xs.length+2) k).length+1≤_;rw[lQ];omega) ?_;refine bB (k+1) (by omega) ?_ ?_
  ·refine hd [(20000,65),(20001,87)] rfl (aI (aI (eB (by omega)) rfl) (aI rfl trivial)) ⟨trivial,⟨⟨rfl,rfl⟩,⟨rfl,rfl⟩,⟨rfl,rfl⟩,rfl,rfl,trivial⟩,trivial,⟨rfl,rfl,rfl,trivial⟩,⟨rfl,pR _⟩,rfl,⟨?_,nP⟩,trivial⟩;show je (xs.length+2) k++[((dF x ((xs.length:Nat)) ((xs.length+1:Nat)) (dup2 xs y) k).length:Int)]=je (xs.length+2) (k+1);rw[Co,hcl]
  ·show(ah xs y).2.2.2.2.length-1-(k+1)<(ah xs y).2.2.2.2.length-1-k;omega
 ·have q2:((ah xs y).2.2.2.2.length:Nat)≤((k+1:Nat):Int):=by have q2:decide (((k+1:Nat):Int)<((ah xs y).2.2.2.2.length:Nat))=false:=q1;simpa using q2
  have hke:k=(ah xs y).2.2.2.2.length-1:=by omega
  subst hke;have h3A:bf (dup3 xs x y):=lM h2A (mD h0) _ hcd;have h3:∀{p},ak xs p→ak (dup3 xs x y) p:=fun h=>bV (mD h) _
  have hc0:ak (dup3 xs x y) (((xs.length:Nat):Int),0):=bV (qb (by decide) (by omega)) _;have hd0:ak (dup3 xs x y) (((xs.length+1:Nat):Int),0):=bV (qg (by decide) (by omega)) _;refine Or.inr (eI _ (eI _ (aI (xS 0 (dup3 xs x y) us' bk kv (x,1) ((xs.length:Nat),0) h3A (h3 hx1) hc0) ?_)));refine Or.inr (eI _ (eI _ (aI (xS 0 _ us' bk kv (x,2) ((xs.length+1:Nat),0) (h3A.move (h3 hx1) hc0) (h3 hx2).move hd0.move) ?_)));have h4A:bf (kE xs x y):=(h3A.move (h3 hx1) hc0).move (h3 hx2).move hd0.move
  have hyi:∀i:Nat,i<(ah xs y).2.2.2.2.length-1→ak (kE xs x y) (y,((i:Nat):Int)+1)∧ak (kE xs x y) (((xs.length+2+i:Nat):Int),0):=fun i hi=>by
   refine⟨(h3 ⟨hy.1,hy.2,by omega,?_⟩).move.move,?_⟩
   ·show((i:Nat):Int)+1<((ah xs y).2.2.2.2.length:Nat);omega
   ·have:=(qh (x:=x) (c:=((xs.length:Nat):Int)) (d:=((xs.length+1:Nat):Int)) (xs:=dup2 xs y) hi).move (p:=(x,1)) (q:=(((xs.length:Nat):Int),0));have:=this.move (p:=(x,2)) (q:=(((xs.length+1:Nat):Int),0));rw[gK]at this;exact this
  refine lp Nat (fun k=>[(102,.int .i64 (k:Nat)),(100,.sl 20001)])
   (fun k=>[.dD 10000 78 [.sl 20000,.rsl bO bk,.mp 10002],.row 20000 111 5 aG (cO y (xs.length+2) (kE xs x y) k) us',.map 10002 .bool kv,.row 20001 2 1 (.int .i64) (je (xs.length+2) ((ah xs y).2.2.2.2.length-1)) []])
   (fun k=>(ah xs y).2.2.2.2.length-1-k) (fun k=>k≤(ah xs y).2.2.2.2.length-1) 0 (Nat.zero_le _) ?_ ?_
  ·exact hd [] rfl (aI (aI rfl rfl) (aI rfl trivial)) ⟨trivial,⟨rfl,rfl,rfl,trivial⟩,⟨rfl,pR _⟩,rfl,⟨rfl,nP⟩,trivial⟩
  intro k hk;refine aI (fun q1=> ?_) (fun q1=> ?_)
  ·have hlt:k<(ah xs y).2.2.2.2.length-1:=by
    have q2:decide (((k:Nat):Int)<((je (xs.length+2) ((ah xs y).2.2.2.2.length-1)).length:Nat))=true:=q1;rw[lQ]at q2;simpa using q2
   refine aI (by show(0:Int)≤(k:Nat)∧((k:Nat):Int)<((je (xs.length+2) ((ah xs y).2.2.2.2.length-1)).length:Nat);rw[lQ];omega) ?_;have hyk:=hyi k hlt;have hrp:=xS 0 (cO y (xs.length+2) (kE xs x y) k) us' bk kv (y,((k:Nat):Int)+1) (((xs.length+2+k:Nat):Int),0) (kF h4A k fun i hi=>hyi i (by omega)) (fF hyk.1 k) (fF hyk.2 k);have hw:IntKind.i64.wrap (((k:Nat):Int)+1)=((k:Nat):Int)+1:=(eB (by omega)).trans (by omega);have hf:elt (0:Int) (je (xs.length+2) ((ah xs y).2.2.2.2.length-1)) (k:Nat)=((xs.length+2+k:Nat):Int):=E9 hlt
   have hrp2:aA Tryz.prog 77 [.ptr 10000 0,vP (y,IntKind.i64.wrap (((k:Nat):Int)+1)),vP (elt (0:Int) (je (xs.length+2) ((ah xs y).2.2.2.2.length-1)) (k:Nat),0)] (tW (cO y (xs.length+2) (kE xs x y) k) us' bk kv) (.tup []) (tW (cO y (xs.length+2) (kE xs x y) (k+1)) us' bk kv):=by
    rw[hw,hf];exact hrp
   refine Or.inr (eI _ (eI _ (aI hrp2 ?_)));refine bB (k+1) (by omega) ?_ ?_
   ·exact hd [] rfl (aI (aI (eB (by omega)) rfl) (aI rfl trivial)) ⟨trivial,⟨rfl,rfl,rfl,trivial⟩,⟨rfl,pR _⟩,rfl,⟨rfl,nP⟩,trivial⟩
   ·show(ah xs y).2.2.2.2.length-1-(k+1)<(ah xs y).2.2.2.2.length-1-k;omega
  ·have hge:(ah xs y).2.2.2.2.length-1≤k:=by
    have q2:decide (((k:Nat):Int)<((je (xs.length+2) ((ah xs y).2.2.2.2.length-1)).length:Nat))=false:=q1;rw[lQ]at q2;simpa using q2
   have hke:k=(ah xs y).2.2.2.2.length-1:=by omega
   refine fin [(10003,20000)] (aI rfl ?_);refine⟨trivial,⟨rfl,rfl,rfl,trivial⟩,⟨?_,hpre⟩,rfl,trivial⟩;show cO y (xs.length+2) (kE xs x y) k=bH xs x y;rw[hke];rfl
theorem Ju:bK Tryz.prog 80=true:=by kernel_rfl
theorem SL(xs:List aj)(us:List Value)(bk:List (El bO))(kv:List (Int×Bool))(x y:Int)(hA:bf xs)(h0:ak xs (0,0))(hl:xs.length≤900000)(hx:0≤x∧x<(xs.length:Nat))(hy1:ak xs (y,1))(h6:(ah xs x).1=6→(ah xs y).2.2.2.1.length=2)(hc:(ah xs x).1≠6→0≤(ah xs x).2.2.1∧(ah xs x).2.2.1<((ah xs y).2.2.2.1.length:Nat))(hp:(ah xs x).2.2.2.2.length≤1000)(hp0:0<(ah xs x).2.2.2.2.length):
  aA Tryz.prog 80 [.ptr 10000 0,.int .i64 x,.int .i64 y] (tW xs us bk kv) (.tup []) (RV 10003 (jP xs x y) us bk kv):=by
 have hy:0≤y∧y<(xs.length:Nat):=⟨hy1.1,hy1.2.1⟩;refine aA.expose Ju ?_;intro us' hpre hlen;refine aA.intro (nt:=105) aJ mixed Ju Tryz.func80 rfl rfl rfl rfl rfl rfl ?_;refine aI hx ?_;refine aI (sJ hlen hx.1 hx.2) ?_;refine aI hy ?_;refine aI (sJ hlen hy.1 hy.2) ?_;refine aI (by kernel_rfl) ?_;have hnp:zx xs us' y 5 3 (us'.getD (y.toNat*5+3) undef):=⟨hy.1,hy.2,rJ hlen hy.1 hy.2 (by decide)⟩;refine aI (fun q1=> ?_) (fun q1=> ?_)
 ·have q2:(ah xs x).1=6:=by have q2:((ah xs x).1==6)=true:=q1;simpa using q2
  have hlen2:=h6 q2
  have hb:0≤(bif (ah xs x).2.2.1==0 then(1:Int)else 0)∧(bif (ah xs x).2.2.1==0 then(1:Int)else 0)<((ah xs y).2.2.2.1.length:Nat):=by
   rw[hlen2];cases ((ah xs x).2.2.1==0)<;>decide
  refine Or.inl (eI _ (aI (LC _) ?_));refine aI hb ?_;refine eI 10001 (aI ⟨hnp,hb⟩ ?_);refine Or.inr (eI _ (eI _ (aI (zR xs us' bk kv 12 (ah xs y).2.1 (jd (ah xs y).2.2.2.1 (bif (ah xs x).2.2.1==0 then 1 else 0)) 1 (by omega) (by omega)) ?_)));have hA1:=hA.add h0 12 (ah xs y).2.1 (jd (ah xs y).2.2.2.1 (bif (ah xs x).2.2.1==0 then 1 else 0)) [] 1;refine Or.inr (eI _ (eI _ (aI (xS 0 _ us' bk kv (y,1) ((xs.length:Nat),0) hA1 hy1.app (ak.new (by decide) (by decide))) ?_)));refine aI (by kernel_rfl) ?_;refine fin [(10003,46)] (aI rfl ?_);refine⟨trivial,⟨rfl,rfl,rfl,trivial⟩,⟨?_,hpre⟩,rfl,trivial⟩
  show _=jP xs x y;unfold jP;rw[show((ah xs x).1==6)=true from q1];rfl
 ·have q2:(ah xs x).1≠6:=by have q2:((ah xs x).1==6)=false:=q1;simpa using q2
  have hv:=hc q2;refine aI hv ?_;refine eI 10001 (aI ⟨hnp,hv⟩ ?_);refine Or.inr (eI _ (eI _ (aI (zR xs us' bk kv 12 (ah xs y).2.1 (jd (ah xs y).2.2.2.1 (ah xs x).2.2.1) 1 (by omega) (by omega)) ?_)));refine aI (by kernel_rfl) ?_;have h1A:bf (bD xs y (ah xs x).2.2.1):=hA.add h0 _ _ _ _ _;have h1l:(bD xs y (ah xs x).2.2.1).length=xs.length+1:=pO _ _ _;have h1R:ak (bD xs y (ah xs x).2.2.1) (iO (bD xs y (ah xs x).2.2.1).length 0):=by rw[h1l];exact ak.new (by decide) (by decide)
  have h1:∀{p},ak xs p→ak (bD xs y (ah xs x).2.2.1) p:=fun h=>h.app
  refine lp Nat (fun k=>[(64,.int .i64 (k:Nat)),(9,.sl 20001)])
   (fun k=>[.dD 6 111 [.int .i64 (ah xs x).1,.int .i64 (ah xs x).2.1,.int .i64 (ah xs x).2.2.1,.nh x 3 (ah xs x).2.2.2.1.length (us'.getD (x.toNat*5+3) undef),.nh x 4 (ah xs x).2.2.2.2.length (us'.getD (x.toNat*5+4) undef)],.dD 7 111 [.int .i64 (ah xs y).1,.int .i64 (ah xs y).2.1,.int .i64 (ah xs y).2.2.1,.nh y 3 (ah xs y).2.2.2.1.length (us'.getD (y.toNat*5+3) undef),.nh y 4 (ah xs y).2.2.2.2.length (us'.getD (y.toNat*5+4) undef)],.dD 8 86 [.int .i64 (iO (xs.length+1) k).1,.int .i64 (iO (xs.length+1) k).2],.dD 10000 78 [.sl 20000,.rsl bO bk,.mp 10002],.row 20000 111 5 aG (pK (ah xs y).2.1 (xs.length+1) (bD xs y (ah xs x).2.2.1) k) us',.map 10002 .bool kv,.row 20001 2 1 (.int .i64) (je (xs.length+1) k) []])
   (fun k=>((ah xs x).2.2.2.2.length-1)-k) (fun k=>k≤((ah xs x).2.2.2.2.length-1)) 0 (Nat.zero_le _) ?_ ?_
  ·exact Tz [⟨9,30000,2,1,.int .i64⟩] [(20000,58),(20001,30000)] rfl (aI (aI (aI rfl rfl) (aI rfl trivial)) ⟨trivial,⟨⟨rfl,rfl⟩,⟨rfl,rfl⟩,⟨rfl,rfl⟩,rfl,rfl,trivial⟩,trivial,⟨⟨rfl,rfl⟩,⟨rfl,rfl⟩,⟨rfl,rfl⟩,rfl,rfl,trivial⟩,trivial,⟨⟨rfl,rfl⟩,⟨rfl,rfl⟩,trivial⟩,trivial,⟨rfl,rfl,rfl,trivial⟩,⟨rfl,pR _⟩,rfl,⟨rfl,nP⟩,trivial⟩)
  intro k hk;have hcl:(pK (ah xs y).2.1 (xs.length+1) (bD xs y (ah xs x).2.2.1) k).length=xs.length+1+k:=by rw[wV,h1l]
  have hwn:IntKind.i64.wrap (((ah xs x).2.2.2.2.length:Nat)-1)=((((ah xs x).2.2.2.2.length-1):Nat):Int):=by rw[qO _ (by omega)];omega
  refine aI (fun q3=> ?_) (fun q3=> ?_)
  ·have hlt:k<((ah xs x).2.2.2.2.length-1):=by
    have q4:decide (((k:Nat):Int)<IntKind.i64.wrap (((ah xs x).2.2.2.2.length:Nat)-1))=true:=q3;rw[hwn]at q4;simpa using q4
   have hadd:=zR (pK (ah xs y).2.1 (xs.length+1) (bD xs y (ah xs x).2.2.1) k) us' bk kv 3 (ah xs y).2.1 0 3 (by rw[hcl];omega) (by omega);rw[hcl]at hadd;refine Or.inr (eI _ (eI _ (aI hadd ?_)));have hnew:=ak.new (xs:=(pK (ah xs y).2.1 (xs.length+1) (bD xs y (ah xs x).2.2.1) k)) (k:=3) (l:=(ah xs y).2.1) (v:=0) (d:=[]) (n:=3) (s:=0) (by decide) (by decide);rw[hcl]at hnew;have hR:=EO (lv:=(ah xs y).2.1) h1R k;rw[h1l]at hR;refine Or.inr (eI _ (eI _ (aI (Fv ((pK (ah xs y).2.1 (xs.length+1) (bD xs y (ah xs x).2.2.1) k)++[bg 3 (ah xs y).2.1 0 [] 3]) us' bk kv (((xs.length+1+k:Nat):Int),0) (iO (xs.length+1) k) hnew hR.app) ?_)))
   refine aI (by kernel_rfl) ?_;refine aI (by show(je (xs.length+1) k).length+1≤_;rw[lQ];omega) ?_;refine bB (k+1) (by omega) ?_ ?_
   ·refine hd [(20000,69),(20001,82)] rfl (aI (aI (eB (by omega)) rfl) (aI rfl trivial)) ⟨trivial,⟨⟨rfl,rfl⟩,⟨rfl,rfl⟩,⟨rfl,rfl⟩,rfl,rfl,trivial⟩,trivial,⟨⟨rfl,rfl⟩,⟨rfl,rfl⟩,⟨rfl,rfl⟩,rfl,rfl,trivial⟩,trivial,⟨⟨rfl,rfl⟩,⟨rfl,rfl⟩,trivial⟩,trivial,⟨rfl,rfl,rfl,trivial⟩,⟨rfl,pR _⟩,rfl,⟨?_,nP⟩,trivial⟩;show je (xs.length+1) k++[((xs.length+1+k:Nat):Int)]=je (xs.length+1) (k+1);rw[Co]
   ·show((ah xs x).2.2.2.2.length-1)-(k+1)<((ah xs x).2.2.2.2.length-1)-k;omega
  ·have hge:((ah xs x).2.2.2.2.length-1)≤k:=by
    have q4:decide (((k:Nat):Int)<IntKind.i64.wrap (((ah xs x).2.2.2.2.length:Nat)-1))=false:=q3;rw[hwn]at q4;simpa using q4
   have hke:k=((ah xs x).2.2.2.2.length-1):=by omega
   subst hke;have h2A:bf (pK (ah xs y).2.1 (xs.length+1) (bD xs y (ah xs x).2.2.1) ((ah xs x).2.2.2.2.length-1)):=by have:=Gj (lv:=(ah xs y).2.1) h1A (h1 h0) h1R ((ah xs x).2.2.2.2.length-1);rwa[h1l]at this
   have h2:∀{p},ak xs p→ak (pK (ah xs y).2.1 (xs.length+1) (bD xs y (ah xs x).2.2.1) ((ah xs x).2.2.2.2.length-1)) p:=fun h=>BZ (h1 h) _
   have hxi:∀i:Nat,i<((ah xs x).2.2.2.2.length-1)→ak (pK (ah xs y).2.1 (xs.length+1) (bD xs y (ah xs x).2.2.1) ((ah xs x).2.2.2.2.length-1)) (x,((i:Nat):Int)+1)∧ak (pK (ah xs y).2.1 (xs.length+1) (bD xs y (ah xs x).2.2.1) ((ah xs x).2.2.2.2.length-1)) (((xs.length+1+i:Nat):Int),1):=fun i hi=>by
    refine⟨h2 ⟨hx.1,hx.2,by omega,?_⟩,?_⟩
    ·show((i:Nat):Int)+1<((ah xs x).2.2.2.2.length:Nat);omega
    ·have:=yQ (lv:=(ah xs y).2.1) (xs:=(bD xs y (ah xs x).2.2.1)) (s:=1) (by decide) (by decide) hi;rw[h1l]at this;exact this
   refine lp Nat (fun k=>[(86,.int .i64 (k:Nat)),(84,.sl 20001)])
    (fun k=>[.dD 8 86 [.int .i64 (iO (xs.length+1) ((ah xs x).2.2.2.2.length-1)).1,.int .i64 (iO (xs.length+1) ((ah xs x).2.2.2.2.length-1)).2],.dD 10000 78 [.sl 20000,.rsl bO bk,.mp 10002],.row 20000 111 5 aG (BX x (xs.length+1) (pK (ah xs y).2.1 (xs.length+1) (bD xs y (ah xs x).2.2.1) ((ah xs x).2.2.2.2.length-1)) k) us',.map 10002 .bool kv,.row 20001 2 1 (.int .i64) (je (xs.length+1) ((ah xs x).2.2.2.2.length-1)) []])
    (fun k=>((ah xs x).2.2.2.2.length-1)-k) (fun k=>k≤((ah xs x).2.2.2.2.length-1)) 0 (Nat.zero_le _) ?_ ?_
   ·exact hd [] rfl (aI (aI rfl rfl) (aI rfl trivial)) ⟨trivial,⟨⟨rfl,rfl⟩,⟨rfl,rfl⟩,trivial⟩,trivial,⟨rfl,rfl,rfl,trivial⟩,⟨rfl,pR _⟩,rfl,⟨rfl,nP⟩,trivial⟩
   intro k hk;refine aI (fun q3=> ?_) (fun q3=> ?_)
   ·have hlt:k<((ah xs x).2.2.2.2.length-1):=by
     have q2:decide (((k:Nat):Int)<((je (xs.length+1) ((ah xs x).2.2.2.2.length-1)).length:Nat))=true:=q3;rw[lQ]at q2;simpa using q2
    refine aI (by show(0:Int)≤(k:Nat)∧((k:Nat):Int)<((je (xs.length+1) ((ah xs x).2.2.2.2.length-1)).length:Nat);rw[lQ];omega) ?_;have hyk:=hxi k hlt;have hrp:=xS 0 (BX x (xs.length+1) (pK (ah xs y).2.1 (xs.length+1) (bD xs y (ah xs x).2.2.1) ((ah xs x).2.2.2.2.length-1)) k) us' bk kv (x,((k:Nat):Int)+1) (((xs.length+1+k:Nat):Int),1) (BH h2A k fun i hi=>hxi i (by omega)) (mg hyk.1 k) (mg hyk.2 k);have hw:IntKind.i64.wrap (((k:Nat):Int)+1)=((k:Nat):Int)+1:=(eB (by omega)).trans (by omega)
    have hf:elt (0:Int) (je (xs.length+1) ((ah xs x).2.2.2.2.length-1)) (k:Nat)=((xs.length+1+k:Nat):Int):=E9 hlt
    have hrp2:aA Tryz.prog 77 [.ptr 10000 0,vP (x,IntKind.i64.wrap (((k:Nat):Int)+1)),vP (elt (0:Int) (je (xs.length+1) ((ah xs x).2.2.2.2.length-1)) (k:Nat),1)] (tW (BX x (xs.length+1) (pK (ah xs y).2.1 (xs.length+1) (bD xs y (ah xs x).2.2.1) ((ah xs x).2.2.2.2.length-1)) k) us' bk kv) (.tup []) (tW (BX x (xs.length+1) (pK (ah xs y).2.1 (xs.length+1) (bD xs y (ah xs x).2.2.1) ((ah xs x).2.2.2.2.length-1)) (k+1)) us' bk kv):=by
     rw[hw,hf];exact hrp
    refine Or.inr (eI _ (eI _ (aI hrp2 ?_)));refine bB (k+1) (by omega) ?_ ?_
    ·exact hd [] rfl (aI (aI (eB (by omega)) rfl) (aI rfl trivial)) ⟨trivial,⟨⟨rfl,rfl⟩,⟨rfl,rfl⟩,trivial⟩,trivial,⟨rfl,rfl,rfl,trivial⟩,⟨rfl,pR _⟩,rfl,⟨rfl,nP⟩,trivial⟩
    ·show((ah xs x).2.2.2.2.length-1)-(k+1)<((ah xs x).2.2.2.2.length-1)-k;omega
   ·have hge:((ah xs x).2.2.2.2.length-1)≤k:=by
     have q2:decide (((k:Nat):Int)<((je (xs.length+1) ((ah xs x).2.2.2.2.length-1)).length:Nat))=false:=q3;rw[lQ]at q2;simpa using q2
    have hke:k=((ah xs x).2.2.2.2.length-1):=by omega
    have hR:=EO (lv:=(ah xs y).2.1) h1R ((ah xs x).2.2.2.2.length-1);rw[h1l]at hR;refine Or.inr (eI _ (eI _ (aI (xS 0 (BX x (xs.length+1) (pK (ah xs y).2.1 (xs.length+1) (bD xs y (ah xs x).2.2.1) ((ah xs x).2.2.2.2.length-1)) k) us' bk kv (y,1) (iO (xs.length+1) ((ah xs x).2.2.2.2.length-1)) (BH h2A k fun i hi=>hxi i (by omega)) (mg (h2 hy1) k) (mg hR k)) ?_)));refine fin [(10003,20000)] (aI rfl ?_);refine⟨trivial,⟨rfl,rfl,rfl,trivial⟩,⟨?_,hpre⟩,rfl,trivial⟩;show dA (BX x (xs.length+1) (pK (ah xs y).2.1 (xs.length+1) (bD xs y (ah xs x).2.2.1) ((ah xs x).2.2.2.2.length-1)) k) (y,1) (iO (xs.length+1) ((ah xs x).2.2.2.2.length-1))=jP xs x y
    unfold jP;rw[show((ah xs x).1==6)=false from q1,hke];rfl
theorem Gm(xs:List aj)(us:List Value)(bk:List (List aj))(kv:List (Int×Bool))(p:Int×Int)(h1:0≤p.1∧p.1<(xs.length:Nat))(h2:0≤p.2∧p.2<(xs.length:Nat))(hb:FY bk)(hs:∀i:Nat,dH (bP bk i))
  (hx:(bJ (ah xs p.1) (ah xs p.2)).1=7→0≤(ah xs (bif (bJ (ah xs p.1) (ah xs p.2)).2 then p.2 else p.1)).2.2.1∧0≤(ah xs (bif (bJ (ah xs p.1) (ah xs p.2)).2 then p.2 else p.1)).2.1∧(ah xs (bif (bJ (ah xs p.1) (ah xs p.2)).2 then p.2 else p.1)).2.1≤8):
  aA Tryz.prog 72 [.ptr 10000 0,vP p] (tW xs us bk kv) (.tup [.int .i64 (checkN bk xs p).1,.int .i64 (checkN bk xs p).2.1,.int .i64 (checkN bk xs p).2.2.1,.int .i64 (checkN bk xs p).2.2.2]) (tW xs us bk kv):=
 aA.o9 aJ [69,0] M5 (fun m=>Vp xs bk m p h1 h2 hb hs hx) rfl
theorem UK(xs:List aj)(us:List Value)(bk:List (List aj))(kv:List (Int×Bool))(c x y:Int)(hx:0≤x∧x<(xs.length:Nat))(hy:0≤y∧y<(xs.length:Nat))(h7:c=7→0≤(ah xs x).2.2.1∧(ah xs x).2.2.1<(bk.length:Nat)):
  aA Tryz.prog 74 [.ptr 10000 0,.int .i64 c,.int .i64 x,.int .i64 y] (tW xs us bk kv) (.int .i64 (r9 bk xs c x y)) (tW xs us bk kv):=
 aA.o9 aJ [69,0,0,0] QV (fun m=>Xv xs bk m c x y hx hy h7) rfl
theorem uU:bK Tryz.prog 38=true:=by kernel_rfl
section
variable (xs:List aj)(us:List Value)(bk:List (List aj))(kv:List (Int×Bool))(p:Int×Int)(h1:0≤p.1∧p.1<(xs.length:Nat))(h2:0≤p.2∧p.2<(xs.length:Nat))(hb:FY bk)(hs:∀i:Nat,dH (bP bk i))
  (hx:(bJ (ah xs p.1) (ah xs p.2)).1=7→0≤(ah xs (bif (bJ (ah xs p.1) (ah xs p.2)).2 then p.2 else p.1)).2.2.1∧0≤(ah xs (bif (bJ (ah xs p.1) (ah xs p.2)).2 then p.2 else p.1)).2.1∧(ah xs (bif (bJ (ah xs p.1) (ah xs p.2)).2 then p.2 else p.1)).2.1≤8)
include h1 h2 hb hs hx
theorem Ql(hc:(checkN bk xs p).2.2.2≠0):aA Tryz.prog 38 [.ptr 10000 0,vP p] (tW xs us bk kv) (.int .i64 (checkN bk xs p).2.2.2) (tW xs us bk kv):=by
 refine aA.intro (nt:=103) aJ mixed uU Tryz.func38 rfl rfl rfl rfl rfl rfl ?_;refine Or.inr (eI _ (eI _ (aI (Gm xs us bk kv p h1 h2 hb hs hx) ?_)));refine aI (fun q1=> ?_) (fun q1=> ?_)
 ·refine fin [] (aI ⟨rfl,rfl⟩ ?_);exact⟨trivial,⟨rfl,rfl,rfl,trivial⟩,⟨rfl,pR _⟩,rfl,trivial⟩
 ·have q2:((checkN bk xs p).2.2.2 !=0)=false:=q1;simp at q2;exact absurd q2 hc
theorem Oa{c x y:Int}(hc:checkN bk xs p=(c,x,y,0))(hx0:0≤x∧x<(xs.length:Nat))(hy0:0≤y∧y<(xs.length:Nat))(h7:c=7→0≤(ah xs x).2.2.1∧(ah xs x).2.2.1<(bk.length:Nat))
  (hf:600<IntKind.i64.wrap (IntKind.i64.wrap ((xs.length:Nat)-(kv.length:Nat))+r9 bk xs c x y)):aA Tryz.prog 38 [.ptr 10000 0,vP p] (tW xs us bk kv) (.int .i64 4) (tW xs us bk kv):=by
 have hck:=Gm xs us bk kv p h1 h2 hb hs hx;rw[hc]at hck;refine aA.intro (nt:=103) aJ mixed uU Tryz.func38 rfl rfl rfl rfl rfl rfl ?_;refine Or.inr (eI _ (eI _ (aI hck ?_)));refine aI (fun q1=>by cases q1) (fun q1=> ?_);refine Or.inr (eI _ (eI _ (aI (PE xs us bk kv) ?_)));refine Or.inr (eI _ (eI _ (aI (UK xs us bk kv c x y hx0 hy0 h7) ?_)));refine aI (fun q2=> ?_) (fun q2=> ?_)
 ·refine fin [] (aI ⟨rfl,rfl⟩ ?_);exact⟨trivial,⟨rfl,rfl,rfl,trivial⟩,⟨rfl,pR _⟩,rfl,trivial⟩
 ·have q3:decide (600<IntKind.i64.wrap (IntKind.i64.wrap ((xs.length:Nat)-(kv.length:Nat))+r9 bk xs c x y))=false:=q2;simp only[qP]at q3;exact absurd hf q3
theorem TB{c x y:Int}(hc:checkN bk xs p=(c,x,y,0))(hc7:1≤c∧c≤7)(hp:IntPre xs c x y)(hA:bf xs)(h0:ak xs (0,0))(hl:xs.length≤800000)(h7:c=7→0≤(ah xs x).2.2.1∧(ah xs x).2.2.1<(bk.length:Nat))
  (hf:¬600<IntKind.i64.wrap (IntKind.i64.wrap ((xs.length:Nat)-(kv.length:Nat))+r9 bk xs c x y))
  (hE:c=7→∀us,aA Tryz.prog 81 [.ptr 10000 0,.int .i64 x,.int .i64 y] (tW xs us bk kv) (.tup []) (RV 10003 (mF bk xs x y) us bk kv)):
  aA Tryz.prog 38 [.ptr 10000 0,vP p] (tW xs us bk kv) (.int .i64 0) (RV 10003 (gy bk xs c x y) us bk (kW kv (gD c x y))):=by
 have hck:=Gm xs us bk kv p h1 h2 hb hs hx;rw[hc]at hck;obtain⟨hx0,hy0,p12,p3,px,py,dy,p5,p6⟩:=hp;refine aA.expose uU ?_;intro us' hpre hlen;have hck:=Gm xs us' bk kv p h1 h2 hb hs hx;rw[hc]at hck;refine aA.intro (nt:=103) aJ mixed uU Tryz.func38 rfl rfl rfl rfl rfl rfl ?_;refine Or.inr (eI _ (eI _ (aI hck ?_)));refine aI (fun q1=>by cases q1) (fun q1=> ?_);refine Or.inr (eI _ (eI _ (aI (PE xs us' bk kv) ?_)));refine Or.inr (eI _ (eI _ (aI (UK xs us' bk kv c x y hx0 hy0 h7) ?_)));refine aI (fun q2=> ?_) (fun q2=> ?_)
 ·have q3:decide (600<IntKind.i64.wrap (IntKind.i64.wrap ((xs.length:Nat)-(kv.length:Nat))+r9 bk xs c x y))=true:=q2;simp only[qQ]at q3;exact absurd q3 hf
 refine aI (fun b1=> ?_) (fun b1=> ?_)
 ·have c1:c=1:=by have b:(c==1)=true:=b1;simpa using b
  have n7:(c==7)=false:=by rw[c1];rfl
  refine aI (fun _=> ?_) (fun h=>by rw[show(c==1)=true from b1]at h;cases h);obtain⟨j1,j2,j3,j4⟩:=p12 (.inl c1);refine Or.inr (eI _ (eI _ (aI (ML xs us' bk kv (x,1) (y,1) j1 j3 (hA _ j1) (hA _ j3)) ?_)));have hA1:=hA.join j1 j3;refine Or.inr (eI _ (eI _ (aI (ML (aV xs (x,1) (y,1)) us' bk kv (x,2) (y,2) j2.join j4.join (hA1 _ j2.join) (hA1 _ j4.join)) ?_)));refine Or.inr (eI _ (eI _ (aI (uX (aV (aV xs (x,1) (y,1)) (x,2) (y,2)) us' bk kv [x,y] (by simp)) ?_)));refine fin [(10003,10001)] (aI ⟨rfl,rfl⟩ ?_);refine⟨trivial,⟨rfl,rfl,rfl,trivial⟩,⟨?_,hpre⟩,?_,trivial⟩
  ·show(aV (aV xs (x,1) (y,1)) (x,2) (y,2))=gy bk xs c x y;simp only[gy,b1,qG,qH]
  ·show kW kv [x,y]=kW kv (gD c x y);simp only[gD,n7,qG,qH]
 refine aI (fun b2=> ?_) (fun b2=> ?_)
 ·have c2:c=2:=by have b:(c==2)=true:=b2;simpa using b
  have n7:(c==7)=false:=by rw[c2];rfl
  obtain⟨j1,j2,j3,j4⟩:=p12 (.inr c2);refine Or.inr (eI _ (eI _ (aI (ML xs us' bk kv (x,1) (y,1) j1 j3 (hA _ j1) (hA _ j3)) ?_)));have hA1:=hA.join j1 j3;refine Or.inr (eI _ (eI _ (aI (ML (aV xs (x,1) (y,1)) us' bk kv (x,2) (y,2) j2.join j4.join (hA1 _ j2.join) (hA1 _ j4.join)) ?_)));refine Or.inr (eI _ (eI _ (aI (uX (aV (aV xs (x,1) (y,1)) (x,2) (y,2)) us' bk kv [x,y] (by simp)) ?_)));refine fin [(10003,10001)] (aI ⟨rfl,rfl⟩ ?_);refine⟨trivial,⟨rfl,rfl,rfl,trivial⟩,⟨?_,hpre⟩,?_,trivial⟩
  ·show(aV (aV xs (x,1) (y,1)) (x,2) (y,2))=gy bk xs c x y;simp only[gy,b1,b2,qG,qH]
  ·show kW kv [x,y]=kW kv (gD c x y);simp only[gD,n7,qG,qH]
 refine aI (fun b3=> ?_) (fun b3=> ?_)
 ·have c3:c=3:=by have b:(c==3)=true:=b3;simpa using b
  have n7:(c==7)=false:=by rw[c3];rfl
  obtain⟨j1,j2⟩:=p3 c3;refine Or.inr (eI _ (eI _ (aI (Zi xs us' bk kv x y hA h0 (by omega) j1 j2 hy0 py.2 dy py.1) ?_)));refine Or.inr (eI _ (eI _ (aI (uX (bH xs x y) us' bk kv [x,y] (by simp)) ?_)));refine fin [(10003,51)] (aI ⟨rfl,rfl⟩ ?_);refine⟨trivial,⟨rfl,rfl,rfl,trivial⟩,⟨?_,hpre⟩,?_,trivial⟩
  ·show(bH xs x y)=gy bk xs c x y;simp only[gy,b1,b2,b3,qG,qH]
  ·show kW kv [x,y]=kW kv (gD c x y);simp only[gD,n7,qG,qH]
 refine aI (fun b4=> ?_) (fun b4=> ?_)
 ·have c4:c=4:=by have b:(c==4)=true:=b4;simpa using b
  have n7:(c==7)=false:=by rw[c4];rfl
  have hyk:∀i:Nat,i<((ah xs y).2.2.2.2.length-1)→ak xs (y,((i+1:Nat):Int)):=fun i hi=>⟨hy0.1,hy0.2,by omega,by show((i+1:Nat):Int)<((ah xs y).2.2.2.2.length:Nat);omega⟩
  refine lp Nat (fun k=>[(9,.int .i64 ((k+1:Nat):Int))]) (fun k=>[.dD 10000 78 [.sl 20000,.rsl bO bk,.mp 10002],.row 20000 111 5 aG (rV y xs k) us',.map 10002 .bool kv]) (fun k=>((ah xs y).2.2.2.2.length-1)-k) (fun k=>k≤((ah xs y).2.2.2.2.length-1)) 0 (Nat.zero_le _) ?_ ?_
  ·exact hd [(20000,10001)] rfl (aI (aI rfl rfl) trivial) ⟨trivial,⟨rfl,rfl,rfl,trivial⟩,⟨rfl,pR _⟩,rfl,trivial⟩
  intro k hk;refine aI (show 0≤y∧y<((rV y xs k).length:Nat) by rw[jQ];omega) ?_;refine aI (sJ hlen hy0.1 hy0.2) ?_;have hpl:(ah (rV y xs k) y).2.2.2.2.length=(ah xs y).2.2.2.2.length:=E8 (by omega) k;refine aI (fun q4=> ?_) (fun q4=> ?_)
  ·have hlt:k<((ah xs y).2.2.2.2.length-1):=by
    have q5:decide (((k+1:Nat):Int)<((ah (rV y xs k) y).2.2.2.2.length:Nat))=true:=q4;rw[hpl]at q5;have q6:((k+1:Nat):Int)<((ah xs y).2.2.2.2.length:Nat):=by simpa using q5
    omega
   have hadd:=zR (rV y xs k) us' bk kv 5 0 0 1 (by rw[jQ];omega) (by omega);rw[jQ]at hadd;refine Or.inr (eI _ (eI _ (aI hadd ?_)));refine Or.inr (eI _ (eI _ (aI (xS 0 (rV y xs k++[bg 5 0 0 [] 1]) us' bk kv (y,((k+1:Nat):Int)) (((xs.length+k:Nat):Int),0) ((wZ hA h0 k fun i hi=>hyk i (by omega)).add (oh h0 k) _ _ _ _ _) (oh (hyk k hlt) k).app (yZ k)) ?_)));refine bB (k+1) (by omega) ?_ ?_
   ·exact hd [(20000,73)] rfl (aI (aI (eB (by omega)) rfl) trivial) ⟨trivial,⟨rfl,rfl,rfl,trivial⟩,⟨rfl,pR _⟩,rfl,trivial⟩
   ·show((ah xs y).2.2.2.2.length-1)-(k+1)<((ah xs y).2.2.2.2.length-1)-k;omega
  have hge:((ah xs y).2.2.2.2.length-1)≤k:=by
   have q5:decide (((k+1:Nat):Int)<((ah (rV y xs k) y).2.2.2.2.length:Nat))=false:=q4;rw[hpl]at q5;have q6:((ah xs y).2.2.2.2.length:Nat)≤((k+1:Nat):Int):=by simpa using q5
   omega
  have hke:k=((ah xs y).2.2.2.2.length-1):=by omega
  subst hke;refine Or.inr (eI _ (eI _ (aI (uX (ig xs y) us' bk kv [x,y] (by simp)) ?_)));refine fin [(10003,20000)] (aI ⟨rfl,rfl⟩ ?_);refine⟨trivial,⟨rfl,rfl,rfl,trivial⟩,⟨?_,hpre⟩,?_,trivial⟩
  ·show(ig xs y)=gy bk xs c x y;simp only[gy,b1,b2,b3,b4,qG,qH]
  ·show kW kv [x,y]=kW kv (gD c x y);simp only[gD,n7,qG,qH]
 refine aI (fun b5=> ?_) (fun b5=> ?_)
 ·have c5:c=5:=by have b:(c==5)=true:=b5;simpa using b
  have n7:(c==7)=false:=by rw[c5];rfl
  obtain⟨j1,j2,j3⟩:=p5 c5;refine Or.inr (eI _ (eI _ (aI (XH xs us' bk kv x y hA h0 (by omega) hx0 j1 j2 j3) ?_)));refine Or.inr (eI _ (eI _ (aI (uX (bG xs x y) us' bk kv [x,y] (by simp)) ?_)));refine fin [(10003,81)] (aI ⟨rfl,rfl⟩ ?_);refine⟨trivial,⟨rfl,rfl,rfl,trivial⟩,⟨?_,hpre⟩,?_,trivial⟩
  ·show(bG xs x y)=gy bk xs c x y;simp only[gy,b1,b2,b3,b4,b5,qG,qH]
  ·show kW kv [x,y]=kW kv (gD c x y);simp only[gD,n7,qG,qH]
 refine aI (fun b6=> ?_) (fun b6=> ?_)
 ·have c6:c=6:=by have b:(c==6)=true:=b6;simpa using b
  have n7:(c==7)=false:=by rw[c6];rfl
  obtain⟨j1,j2,j3⟩:=p6 c6;refine Or.inr (eI _ (eI _ (aI (SL xs us' bk kv x y hA h0 (by omega) hx0 j1 j2 j3 px.2 px.1) ?_)));refine Or.inr (eI _ (eI _ (aI (uX (jP xs x y) us' bk kv [x,y] (by simp)) ?_)));refine fin [(10003,87)] (aI ⟨rfl,rfl⟩ ?_);refine⟨trivial,⟨rfl,rfl,rfl,trivial⟩,⟨?_,hpre⟩,?_,trivial⟩
  ·show(jP xs x y)=gy bk xs c x y;simp only[gy,b1,b2,b3,b4,b5,b6,qG,qH]
  ·show kW kv [x,y]=kW kv (gD c x y);simp only[gD,n7,qG,qH]
 refine aI (fun b7=> ?_) (fun b7=> ?_)
 ·have c7:c=7:=by have b:(c==7)=true:=b7;simpa using b
  refine Or.inr (eI _ (eI _ (aI (hE c7 us') ?_)));refine Or.inr (eI _ (eI _ (aI (uX (mF bk xs x y) us' bk kv [x] (by simp)) ?_)));refine fin [(10003,93)] (aI ⟨rfl,rfl⟩ ?_);refine⟨trivial,⟨rfl,rfl,rfl,trivial⟩,⟨?_,hpre⟩,?_,trivial⟩
  ·show(mF bk xs x y)=gy bk xs c x y;simp only[gy,b1,b2,b3,b4,b5,b6,b7,qG,qH]
  ·show kW kv [x]=kW kv (gD c x y);simp only[gD,b7,qG,qH]
 ·exfalso;simp at b1 b2 b3 b4 b5 b6 b7;omega
end
end Go.Proofs.YtcjhkgfmklgikaaGreat
namespace Go.Proofs.YtcjhkgfmklgikaaGreat
open Go Go.RowKit Go.Proofs Go.Tr
abbrev tR(xs:List aj)(us:List Value)(bk:List (List aj))(kv:List (Int×Bool))(ev:List aT):List Tok:=[.dD 10000 97 [.ptr 10001 0,.sl 10004],.dD 10001 78 [.sl 10002,.rsl bO bk,.mp 10003],.row 10002 111 5 aG xs us,.map 10003 .bool kv,.row 10004 88 5 rH ev []]
abbrev Un(g1 g2:Nat)(xs:List aj)(us:List Value)(bk:List (List aj))(kv:List (Int×Bool))(ev:List aT):List Tok:=[.dD 10000 97 [.ptr 10001 0,.sl g2],.dD 10001 78 [.sl g1,.rsl bO bk,.mp 10003],.row g1 111 5 aG xs us,.map 10003 .bool kv,.row g2 88 5 rH ev []]
theorem FC:bK Tryz.prog 96=true:=by kernel_rfl
theorem JB:bK Tryz.prog 49=true:=by kernel_rfl
section
variable (xs:List aj)(us:List Value)(bk:List (List aj))(kv:List (Int×Bool))(ev:List aT)
theorem Xj:aA Tryz.prog 97 [.ptr 10000 0] (tR xs us bk kv ev) (.int .i64 (bif decide (3000<(xs.length:Int))then 4 else 0)) (tR xs us bk kv ev):=by
 refine aA.intro (nt:=13) aJ mixed (by kernel_rfl) Tryz.func97 rfl rfl rfl rfl rfl rfl ?_;refine aI (fun q1=> ?_) (fun q1=> ?_)
 ·have q2:decide (3000<(xs.length:Int))=true:=q1;refine fin [] (aI ⟨by rw[q2];rfl,rfl⟩ ?_);exact⟨trivial,⟨rfl,rfl,trivial⟩,trivial,⟨rfl,rfl,rfl,trivial⟩,⟨rfl,pR _⟩,rfl,⟨rfl,nP⟩,trivial⟩
 ·have q2:decide (3000<(xs.length:Int))=false:=q1;refine fin [] (aI ⟨by rw[q2];rfl,rfl⟩ ?_);exact⟨trivial,⟨rfl,rfl,trivial⟩,trivial,⟨rfl,rfl,rfl,trivial⟩,⟨rfl,pR _⟩,rfl,⟨rfl,nP⟩,trivial⟩
end
end Go.Proofs.YtcjhkgfmklgikaaGreat
namespace Go.Proofs.YtcjhkgfmklgikaaGreat
open Go Go.RowKit Go.Proofs Go.Tr
section
variable (xs:List aj)(us:List Value)(bk:List (List aj))(kv:List (Int×Bool))(ev:List aT)
variable (p:Int×Int)(h1:0≤p.1∧p.1<(xs.length:Nat))(h2:0≤p.2∧p.2<(xs.length:Nat))
include h1 h2
theorem K6{code:Int}(hc:code≠0)(hI:aA Tryz.prog 38 [.ptr 10000 0,vP p] (tW xs us bk kv) (.int .i64 code) (tW xs us bk kv)):aA Tryz.prog 96 [.ptr 10000 0,vP p] (tR xs us bk kv ev) (.int .i64 code) (tR xs us bk kv ev):=by
 refine aA.intro (nt:=65) aJ mixed FC Tryz.func96 rfl rfl rfl rfl rfl rfl ?_;refine Or.inr (eI _ (eI _ (aI (aA.o9 aJ [51,0] Ap (Cc xs p h1 h2) rfl) ?_)));refine aI (by kernel_rfl) ?_;refine Or.inr (eI _ (eI _ (aI hI ?_)));refine aI (by kernel_rfl) ?_;refine aI (fun q1=> ?_) (fun q1=> ?_)
 ·refine fin [] (aI ⟨rfl,rfl⟩ ?_);exact⟨trivial,⟨rfl,rfl,trivial⟩,trivial,⟨rfl,rfl,rfl,trivial⟩,⟨rfl,pR _⟩,rfl,⟨rfl,nP⟩,trivial⟩
 ·exfalso;have q2:(code !=0)=false:=q1;simp at q2;exact hc q2
theorem Oz{xs':List aj}{kv':List (Int×Bool)}(hx':xs'.length≤1000000)(hx:xs.length≤xs'.length)(he:ev.length≤1000)(hI:aA Tryz.prog 38 [.ptr 10000 0,vP p] (tW xs us bk kv) (.int .i64 0) (RV 10003 xs' us bk kv')):aA Tryz.prog 96 [.ptr 10000 0,vP p] (tR xs us bk kv ev) (.int .i64 0) (Un 10005 10006 xs' us bk kv' (ev++[(p.1,p.2,(bJ (ah xs p.1) (ah xs p.2)).1,(xs.length:Int),(xs'.length:Int)-(xs.length:Int))])):=by
 refine aA.intro (nt:=65) aJ mixed FC Tryz.func96 rfl rfl rfl rfl rfl rfl ?_;refine Or.inr (eI _ (eI _ (aI (aA.o9 aJ [51,0] Ap (Cc xs p h1 h2) rfl) ?_)));refine aI (by kernel_rfl) ?_;refine Or.inr (eI _ (eI _ (aI hI ?_)));refine aI (by kernel_rfl) ?_;refine aI (fun q1=>by cases q1) (fun q1=> ?_);refine aI (show ev.length+1≤1073741824 by omega) ?_;refine aI (by kernel_rfl) ?_;refine fin [(10005,34),(10006,62)] (aI ⟨rfl,rfl⟩ ?_);refine⟨trivial,⟨rfl,rfl,trivial⟩,trivial,⟨rfl,rfl,rfl,trivial⟩,⟨rfl,pR _⟩,rfl,⟨?_,nP⟩,trivial⟩;have hw:IntKind.i64.wrap ((xs'.length:Int)-(xs.length:Int))=(xs'.length:Int)-(xs.length:Int):=qO _ (by omega)
 exact congrArg (fun z:Int=>ev++[((p.1,p.2,(bJ (ah xs p.1) (ah xs p.2)).1,(xs.length:Int),z):aT)]) hw
omit h1 h2 in
theorem OE{code:Int}(hc:code≠0)(hP:aA Tryz.prog 96 [.ptr 10000 0,vP p] (tR xs us bk kv ev) (.int .i64 code) (tR xs us bk kv ev)):aA Tryz.prog 49 [.ptr 10000 0,vP p] (tR xs us bk kv ev) (.int .i64 code) (tR xs us bk kv ev):=by
 refine aA.intro (nt:=14) aJ mixed JB Tryz.func49 rfl rfl rfl rfl rfl rfl ?_;refine Or.inr (eI _ (eI _ (aI hP ?_)));refine aI (fun q1=> ?_) (fun q1=> ?_)
 ·refine fin [] (aI ⟨rfl,rfl⟩ ?_);exact⟨trivial,⟨rfl,rfl,trivial⟩,trivial,⟨rfl,rfl,rfl,trivial⟩,⟨rfl,pR _⟩,rfl,⟨rfl,nP⟩,trivial⟩
 ·exfalso;have q2:(code !=0)=false:=q1;simp at q2;exact hc q2
omit h1 h2 in
theorem RB{xs':List aj}{kv':List (Int×Bool)}{ev':List aT}(hP:aA Tryz.prog 96 [.ptr 10000 0,vP p] (tR xs us bk kv ev) (.int .i64 0) (Un 10005 10006 xs' us bk kv' ev')):aA Tryz.prog 49 [.ptr 10000 0,vP p] (tR xs us bk kv ev) (.int .i64 (bif decide (3000<(xs'.length:Int))then 4 else 0)) (Un 10005 10006 xs' us bk kv' ev'):=by
 refine aA.intro (nt:=14) aJ mixed JB Tryz.func49 rfl rfl rfl rfl rfl rfl ?_;refine Or.inr (eI _ (eI _ (aI hP ?_)));refine aI (fun q1=>by cases q1) (fun q1=> ?_);refine Or.inr (eI _ (eI _ (aI (Xj xs' us bk kv' ev') ?_)));refine fin [(10005,8),(10006,1000008)] (aI ⟨rfl,rfl⟩ ?_);exact⟨trivial,⟨rfl,rfl,trivial⟩,trivial,⟨rfl,rfl,rfl,trivial⟩,⟨rfl,pR _⟩,rfl,⟨rfl,nP⟩,trivial⟩
end
end Go.Proofs.YtcjhkgfmklgikaaGreat
namespace Go.Proofs.YtcjhkgfmklgikaaGreat
open Go Go.RowKit Go.Proofs Go.Tr
abbrev OP(e:aT):SV:=.agg [.int .i64 e.1,.int .i64 e.2.1,.int .i64 e.2.2.1,.int .i64 e.2.2.2.1,.int .i64 e.2.2.2.2]
section
variable (xs:List aj)(us:List Value)(bk:List (List aj))(kv:List (Int×Bool))(ev:List aT)(e:aT)
variable (ha:RX xs kv e.1=true)(hb:RX xs kv e.2.1=true)(hp:0<(ah xs e.1).2.2.2.2.length)
include ha hb hp
variable (h:SB xs e.1 e.2.1=true)
include h
end
end Go.Proofs.YtcjhkgfmklgikaaGreat
namespace Go.Proofs.YtcjhkgfmklgikaaGreat
open Go Go.RowKit Go.Proofs Go.Tr
theorem ZaN:bK Tryz.prog 36=true:=by kernel_rfl
theorem VN(xs:List aj)(bk:List (List aj))(h:dH xs):aA Tryz.prog 36 [.rsl bO bk,.agg [.rsl aG xs]] [] (.ptr 10000 0) [.dD 10000 78 [.sl 10001,.rsl bO bk,.mp 10002],.row 10001 111 5 aG xs [],.map 10002 .bool []]:=by
 refine aA.intro (nt:=11) aJ mixed ZaN Tryz.func36 rfl rfl rfl rfl rfl rfl ?_;refine Or.inr (eI _ (eI _ (aI (Ci xs h) ?_)));refine fin [(10000,10),(10001,6),(10002,8)] (aI rfl ?_);exact⟨trivial,⟨rfl,rfl,rfl,trivial⟩,⟨rfl,nP⟩,rfl,trivial⟩
theorem TL(xs:List aj)(bk:List (List aj))(h:dH xs):aA Tryz.prog 90 [.rsl bO bk,.agg [.rsl aG xs]] [] (.ptr 10000 0) [.dD 10000 97 [.ptr 10001 0,.raw (.slice none 0 0)],.dD 10001 78 [.sl 10002,.rsl bO bk,.mp 10003],.row 10002 111 5 aG xs [],.map 10003 .bool []]:=by
 refine aA.intro (nt:=10) aJ mixed (by kernel_rfl) Tryz.func90 rfl rfl rfl rfl rfl rfl ?_;refine Or.inr (eI _ (eI _ (aI (VN xs bk h) ?_)));refine fin [(10000,9),(10001,7),(10002,1000007),(10003,2000007)] (aI rfl ?_);exact⟨trivial,⟨rfl,rfl,trivial⟩,trivial,⟨rfl,rfl,rfl,trivial⟩,⟨rfl,nP⟩,rfl,trivial⟩
end Go.Proofs.YtcjhkgfmklgikaaGreat
