
/- The program's nets: wires. -/
import Derived.Test.YtjijpkphkicoeaaGreatShort
import Derived.Test.YtjijpkphkicoeaaGreatProg
import Derived.Test.YtjijpkphkicoeaaGreatVti
import Derived.Test.YtjijpkphkicoeaaGreatNz
import Derived.Test.YtjijpkphkicoeaaGreatVV
import Derived.Test.YtjijpkphkicoeaaGreatValid
set_option maxHeartbeats 4000000
set_option maxRecDepth 100000
set_option linter.unusedSimpArgs false
set_option linter.unusedVariables false
set_option linter.unusedSectionVars false
namespace Go.Proofs.YtjijpkphkicoeaaGreat
open Go Go.RowKit Go.Proofs Go.Tr
abbrev tW(xs:List aj)(us:List Value)(bk:List (El aR))(kv:List (Int×Bool)):List Tok:=[.bV 10000 87 [.sl 10001,.rsl aR bk,.mp 10002],.row 10001 131 5 aD xs us,.map 10002 .bool kv]
theorem RV:bH Tryz.prog 162=true:=by kernel_rfl
theorem FX(xs:List aj)(us:List Value)(bk:List (El aR))(kv:List (Int×Bool))(p q:aF)(hp:ak xs p)(hq:ak xs q):aA Tryz.prog 162 [.ptr 10000 0,vP p,vP q] (tW xs us bk kv) (.tup []) (tW (bL xs p q) us bk kv):=by
 refine aA.expose RV ?_;intro us' hpre hlen;have hq':ak (aL xs p q) q:=hq.set;obtain⟨p1,p2,p3,p4⟩:=hp;obtain⟨q1,q2,q3,q4⟩:=hq';have q2':q.1<(xs.length:Nat):=by rwa[dh]at q2
 refine aA.intro (nt:=32) aH mixed RV Tryz.func162 rfl rfl rfl rfl rfl rfl ?_;refine aI ⟨p1,p2⟩ ?_;refine aI (sJ hlen p1 p2) ?_;refine aI ⟨p3,p4⟩ ?_;refine eI 10001 (aI ⟨⟨p1,p2,rM hlen p1 p2 (by decide)⟩,p3,p4⟩ ?_);refine aI (by kernel_rfl) ?_;refine aI ⟨q1,q2⟩ ?_;refine aI (sJ hlen q1 q2') ?_;refine aI ⟨q3,q4⟩ ?_;refine eI 10001 (aI ⟨⟨q1,q2,rM hlen q1 q2' (by decide)⟩,q3,q4⟩ ?_);refine aI (by kernel_rfl) ?_;refine fin [] (aI rfl ?_);exact⟨trivial,⟨rfl,rfl,rfl,trivial⟩,⟨rfl,hpre⟩,rfl,trivial⟩
theorem LW:bH Tryz.prog 128=true:=by kernel_rfl
theorem Bp(xs:List aj)(p:aF)(hp:ak xs p):aO Tryz.prog 128 [.rp aR xs,vP p] (vP (au xs p)):=by
 obtain⟨p1,p2,p3,p4⟩:=hp;refine aO.intro (nt:=18) aH mixed LW Tryz.func128 rfl rfl rfl rfl rfl ?_;refine aI ⟨p1,p2⟩ ?_;refine aI ⟨p3,p4⟩ ?_;refine aI (by kernel_rfl) ?_;exact rfl
theorem Sd(xs:List aj)(us:List Value)(bk:List (El aR))(kv:List (Int×Bool))(p:aF)(hp:ak xs p):aA Tryz.prog 128 [.ptr 10000 0,vP p] (tW xs us bk kv) (vP (au xs p)) (tW xs us bk kv):=
 aA.oh aH [61,0] LW (Bp xs p hp) rfl
theorem Zf(xs:List aj)(us:List Value)(bk:List (El aR))(kv:List (Int×Bool))(p q:aF)(hp:ak xs p)(hr:ak xs (au xs p))(hq:ak xs q):aA Tryz.prog 109 [.ptr 10000 0,vP p,vP q] (tW xs us bk kv) (.tup []) (tW (dG xs p q) us bk kv):=by
 refine aA.intro (nt:=16) aH mixed (by kernel_rfl) Tryz.func109 rfl rfl rfl rfl rfl rfl ?_;refine Or.inr (eI _ (eI _ (aI (Sd xs us bk kv p hp) ?_)));refine Or.inr (eI _ (eI _ (aI (FX xs us bk kv _ q hr hq) ?_)));refine aI (by kernel_rfl) ?_;refine fin [] (aI rfl ?_);exact⟨trivial,⟨rfl,rfl,rfl,trivial⟩,⟨rfl,pR _⟩,rfl,trivial⟩
theorem Nz(xs:List aj)(us:List Value)(bk:List (El aR))(kv:List (Int×Bool))(p q:aF)(hp:ak xs p)(hq:ak xs q)(hr:ak xs (au xs p))(hs:ak xs (au xs q)):aA Tryz.prog 107 [.ptr 10000 0,vP p,vP q] (tW xs us bk kv) (.tup []) (tW (aU xs p q) us bk kv):=by
 refine aA.intro (nt:=27) aH mixed (by kernel_rfl) Tryz.func107 rfl rfl rfl rfl rfl rfl ?_;refine Or.inr (eI _ (eI _ (aI (Sd xs us bk kv p hp) ?_)));refine Or.inr (eI _ (eI _ (aI (Sd xs us bk kv q hq) ?_)));refine aI (by kernel_rfl) ?_;refine aI ⟨by kernel_rfl,rfl⟩ ?_;refine aI (fun h1=> ?_) (fun h1=> ?_)
 ·refine Or.inr (eI _ (eI _ (aI (FX xs us bk kv (au xs p) (au xs q) hr hs) ?_)));refine aI (by kernel_rfl) ?_;refine fin [] (aI rfl ?_);refine⟨trivial,⟨rfl,rfl,rfl,trivial⟩,⟨?_,pR _⟩,rfl,trivial⟩;have h1:(!gG [(au xs p).1,(au xs p).2] [q.1,q.2])=true:=h1
  have h2:((au xs p).1==q.1&&(au xs p).2==q.2)=false:=by
   cases hc:((au xs p).1==q.1&&(au xs p).2==q.2)with
   |false=>rfl
   |true=>simp[gG,hc]at h1
  show bL xs (au xs p) (au xs q)=_;unfold aU;rw[h2];rfl
 ·refine fin [] (aI rfl ?_);refine⟨trivial,⟨rfl,rfl,rfl,trivial⟩,⟨?_,pR _⟩,rfl,trivial⟩;have h1:(!gG [(au xs p).1,(au xs p).2] [q.1,q.2])=false:=h1;have h2:((au xs p).1==q.1&&(au xs p).2==q.2)=true:=by simpa[gG]using h1
  show xs=_;unfold aU;rw[h2];rfl
theorem wD:bH Tryz.prog 163=true:=by kernel_rfl
theorem Lj(xs:List (El (.int .i64)))(hx:xs.length≤1048576):aA Tryz.prog 163 [.rsl (.int .i64) xs] [] (.sl 10000) [.row 10000 2 1 (.int .i64) xs []]:=by
 refine aA.YR (fun he c=> ?_) ?_
 ·subst he;refine aA.intro (nt:=8) aH mixed wD Tryz.func163 rfl rfl rfl rfl rfl rfl ?_;refine aI (fun h1=> ?_) (fun h1=>by cases h1);refine WX [⟨2,30000,2,1,.int .i64⟩] [(10000,30000)] (aI rfl ?_);exact⟨⟨rfl,nP⟩,trivial⟩
 ·refine aA.intro (nt:=8) aH mixed wD Tryz.func163 rfl rfl rfl rfl rfl rfl ?_;refine aI (fun h1=>by cases h1) (fun h1=> ?_);refine aI (by show 0+xs.length≤_;omega) ?_;refine fin [(10000,7)] (aI rfl ?_);exact⟨⟨rfl,nP⟩,trivial⟩
theorem Gb:bH Tryz.prog 186=true:=by kernel_rfl
theorem Ug(xs:List (El (aM)))(hx:xs.length≤1048576):aA Tryz.prog 186 [.rsl (aM) xs] [] (.sl 10000) [.row 10000 102 2 (aM) xs []]:=by
 refine aA.YR (fun he c=> ?_) ?_
 ·subst he;refine aA.intro (nt:=8) aH mixed Gb Tryz.func186 rfl rfl rfl rfl rfl rfl ?_;refine aI (fun h1=> ?_) (fun h1=>by cases h1);refine WX [⟨2,30000,102,2,aM⟩] [(10000,30000)] (aI rfl ?_);exact⟨⟨rfl,nP⟩,trivial⟩
 ·refine aA.intro (nt:=8) aH mixed Gb Tryz.func186 rfl rfl rfl rfl rfl rfl ?_;refine aI (fun h1=>by cases h1) (fun h1=> ?_);refine aI (by show 0+xs.length≤_;omega) ?_;refine fin [(10000,7)] (aI rfl ?_);exact⟨⟨rfl,nP⟩,trivial⟩
theorem uT(xs:List aj)(us:List Value)(bk:List (El aR))(kv:List (Int×Bool))(ks:List Int)(hk:ks.length≤1000):aA Tryz.prog 114 [.ptr 10000 0,.sl 10003] (tW xs us bk kv++[.row 10003 2 1 (.int .i64) ks []]) (.tup []) (tW xs us bk (kW kv ks)):=by
 refine aA.intro (nt:=18) aH mixed (by kernel_rfl) Tryz.func114 rfl rfl rfl rfl rfl rfl ?_;refine lp Nat (fun i=>[(8,.int .i64 (i:Nat))]) (fun i=>tW xs us bk (kW kv (ks.take i))++[.row 10003 2 1 (.int .i64) ks []]) (fun i=>ks.length-i) (fun i=>i≤ks.length) 0 (Nat.zero_le _) ?_ ?_
 ·exact hd [] rfl (aI (aI rfl rfl) trivial) ⟨trivial,⟨rfl,rfl,rfl,trivial⟩,⟨rfl,pR _⟩,rfl,⟨rfl,nP⟩,trivial⟩
 intro i hi;refine aI (fun h1=> ?_) (fun h1=> ?_)
 ·have hlt:i<ks.length:=by simpa using h1
  refine aI (by show(0:Int)≤(i:Nat)∧((i:Nat):Int)<(ks.length:Nat);omega) ?_;refine aP (i+1) hlt ?_ ?_
  ·refine hd [] rfl (aI (aI (dB (by omega)) rfl) trivial) ⟨trivial,⟨rfl,rfl,rfl,trivial⟩,⟨rfl,pR _⟩,PG kv hlt,⟨rfl,nP⟩,trivial⟩
  ·show ks.length-(i+1)<ks.length-i;omega
 ·have hge:ks.length≤i:=by simpa using h1
  refine fin [] (aI rfl ?_);refine⟨trivial,⟨rfl,rfl,rfl,trivial⟩,⟨rfl,pR _⟩,?_,trivial⟩;show kW kv (ks.take i)=kW kv ks;rw[qN hge]
theorem oO(a b:Bool):(bif a then b else false)=(a&&b):=by cases a<;>rfl
theorem Ck(a b:Bool):(bif a then true else b)=(a||b):=by cases a<;>rfl
theorem H8(n lo hi:Int):aO Tryz.prog 87 [.int .i64 n,.int .i64 lo,.int .i64 hi] (.bool (dX n lo hi)):=by
 refine aO.intro (nt:=15) aH mixed (by kernel_rfl) Tryz.func87 rfl rfl rfl rfl rfl ?_;exact oO _ _
theorem VO(n:Int):aO Tryz.prog 187 [.int .i64 n] (.bool (kg n)):=by
 refine aO.intro (nt:=9) aH mixed (by kernel_rfl) Tryz.func187 rfl rfl rfl rfl rfl ?_;exact oO _ _
theorem Ro(n:Int):aO Tryz.prog 189 [.int .i64 n] (.bool (xH n)):=by
 refine aO.intro (nt:=9) aH mixed (by kernel_rfl) Tryz.func189 rfl rfl rfl rfl rfl ?_;exact oO _ _
theorem BQ(k:Int):aO Tryz.prog 188 [.int .i64 k] (.bool (bR k)):=by
 refine aO.intro (nt:=17) aH mixed (by kernel_rfl) Tryz.func188 rfl rfl rfl rfl rfl ?_;refine Or.inl (eI _ (aI (VO k) ?_));refine Eq.trans (Eq.refl _) ?_;simp only[oO,bR]
theorem BR(k:Int):aO Tryz.prog 180 [.int .i64 k] (.bool (bR k)):=by
 refine aO.intro (nt:=14) aH mixed (by kernel_rfl) Tryz.func180 rfl rfl rfl rfl rfl ?_
 repeat' (refine aI (fun _=> ?_) (fun _=> ?_))
 all_goals (refine Eq.trans (Eq.refl _) ?_)
 all_goals (simp_all [bR,kg,dX])
 all_goals omega
theorem GN(k l:Int):aO Tryz.prog 158 [.int .i64 k,.int .i64 l] (.bool (cO k l)):=by
 refine aO.intro (nt:=19) aH mixed (by kernel_rfl) Tryz.func158 rfl rfl rfl rfl rfl ?_;refine Or.inl (eI _ (aI (VO k) ?_));refine Or.inl (eI _ (aI (fun _=>BQ k) ?_));refine Or.inl (eI _ (aI (fun _=>Ro l) ?_));refine Eq.trans (Eq.refl _) ?_;simp only[oO,Ck,cO]
theorem YK(k:Int):aO Tryz.prog 207 [.int .i64 k] (.bool (kg k)):=by
 refine aO.intro (nt:=5) aH mixed (by kernel_rfl) Tryz.func207 rfl rfl rfl rfl rfl ?_;refine Or.inl (eI _ (aI (H8 k 1 12) ?_));exact rfl
theorem K9(k l:Int):aO Tryz.prog 195 [.int .i64 k,.int .i64 l] (.bool (cO k l)):=by
 refine aO.intro (nt:=15) aH mixed (by kernel_rfl) Tryz.func195 rfl rfl rfl rfl rfl ?_;refine Or.inl (eI _ (aI (BR k) ?_));refine aI (fun q=> ?_) (fun q=> ?_)
 ·refine Or.inl (eI _ (aI (H8 l 0 8) ?_));refine Eq.trans (Eq.refl _) ?_;have q:bR k=true:=q;have hk:kg k=true:=by cases h:kg k with|true=>rfl|false=>rw[ng h]at q;cases q
  simp only[cO,q,hk,Bool.true_and,xH]
  by_cases h0:l=0
  ·subst h0;rfl
  ·simp[h0]
 ·refine Or.inl (eI _ (aI (YK k) ?_));refine Eq.trans (Eq.refl _) ?_;have q:bR k=false:=q;simp only[oO,cO,q,Bool.false_and,Bool.or_false]
theorem YA(k:Int):aO Tryz.prog 191 [.int .i64 k] (.bool (oD k)):=by
 refine aO.intro (nt:=21) aH mixed (by kernel_rfl) Tryz.func191 rfl rfl rfl rfl rfl ?_;refine Eq.trans (Eq.refl _) ?_;simp only[Ck,oD,Bool.or_assoc]
theorem YB(k:Int):aO Tryz.prog 198 [.int .i64 k] (.bool (oD k)):=by
 refine aO.intro (nt:=10) aH mixed (by kernel_rfl) Tryz.func198 rfl rfl rfl rfl rfl ?_
 repeat' (refine aI (fun _=> ?_) (fun _=> ?_))
 all_goals (refine Eq.trans (Eq.refl _) ?_)
 all_goals simp_all [oD]
theorem dplQ(t k l:Int):aO Tryz.prog 190 [.int .i64 t,.int .i64 k,.int .i64 l] (.bool (Bz t k l)):=by
 refine aO.intro (nt:=31) aH mixed (by kernel_rfl) Tryz.func190 rfl rfl rfl rfl rfl ?_;refine Or.inl (eI _ (aI (Ro t) ?_));refine Or.inl (eI _ (aI (fun _=>GN k l) ?_));refine aI (fun q=> ?_) (fun q=> ?_)
 ·refine Eq.trans (Eq.refl _) ?_;simp only[Bz];have q:(bif !xH t then true else !cO k l)=true:=q;revert q;cases xH t<;>cases cO k l<;>simp
 ·refine Or.inl (eI _ (aI (fun _=>BQ k) ?_));refine Eq.trans (Eq.refl _) ?_;have q:(bif !xH t then true else !cO k l)=false:=q;have h:xH t=true∧cO k l=true:=by revert q;cases xH t<;>cases cO k l<;>simp
  simp only[oO,Ck,Bz,h.1,h.2,Bool.true_and,Bool.or_assoc]
theorem dplS(t k l:Int):aO Tryz.prog 197 [.int .i64 t,.int .i64 k,.int .i64 l] (.bool (Bz t k l)):=by
 refine aO.intro (nt:=29) aH mixed (by kernel_rfl) Tryz.func197 rfl rfl rfl rfl rfl ?_;refine Or.inl (eI _ (aI (H8 t 0 8) ?_));refine Or.inl (eI _ (aI (fun _=>K9 k l) ?_));refine aI (fun q=> ?_) (fun q=> ?_)
 ·refine Eq.trans (Eq.refl _) ?_;simp only[Bz];have q:(bif !xH t then true else !cO k l)=true:=q;revert q;cases xH t<;>cases cO k l<;>simp
 ·have q:(bif !xH t then true else !cO k l)=false:=q;have h:xH t=true∧cO k l=true:=by revert q;cases xH t<;>cases cO k l<;>simp
  refine aI (fun q2=> ?_) (fun q2=> ?_)
  ·refine Eq.trans (Eq.refl _) ?_;have q2:(bif k==6 then true else k==12)=true:=q2;rw[Ck]at q2;simp only[Bz,h.1,h.2,q2,Bool.true_and,Bool.true_or]
  ·refine Or.inl (eI _ (aI (BR k) ?_));refine Eq.trans (Eq.refl _) ?_;have q2:(bif k==6 then true else k==12)=false:=q2;rw[Ck]at q2;simp only[oO,Bz,h.1,h.2,q2,Bool.true_and,Bool.false_or]
theorem Wh(ka la kb lb:Int):aO Tryz.prog 159 [.int .i64 ka,.int .i64 la,.int .i64 kb,.int .i64 lb] (.int .i64 (rule ka la kb lb)):=by
 refine aO.intro (nt:=52) aH mixed (by kernel_rfl) Tryz.func159 rfl rfl rfl rfl rfl ?_;refine aI (fun _=> ?_) (fun _=>aI (fun _=>aI (fun _=> ?_) (fun _=>Or.inl (eI _ (aI (dplQ la kb lb) (aI (fun _=> ?_) (fun _=> ?_)))))) (fun _=> ?_))
 repeat' (refine aI ?_ ?_<;>intro _)
 rotate_right 2
 refine Or.inl (eI _ (aI (YA kb) (aI (fun _=> ?_) (fun _=> ?_))))
 all_goals (refine aI (Eq.trans (Eq.refl _) ?_) rfl)
 all_goals (simp_all [rule])
theorem Om(ka la kb lb:Int):aO Tryz.prog 174 [.int .i64 ka,.int .i64 la,.int .i64 kb,.int .i64 lb] (.int .i64 (rule ka la kb lb)):=by
 refine aO.intro (nt:=50) aH mixed (by kernel_rfl) Tryz.func174 rfl rfl rfl rfl rfl ?_;refine aI (fun _=> ?_) (fun _=>aI (fun _=>aI (fun _=> ?_) (fun _=>Or.inl (eI _ (aI (dplS la kb lb) (aI (fun _=> ?_) (fun _=> ?_)))))) (fun _=> ?_))
 repeat' (refine aI ?_ ?_<;>intro _)
 rotate_right 2
 refine Or.inl (eI _ (aI (YB kb) (aI (fun _=> ?_) (fun _=> ?_))))
 all_goals (refine aI (Eq.trans (Eq.refl _) ?_) rfl)
 all_goals (simp_all [rule])
theorem U3(a b c d:Int):aO Tryz.prog 103 [.int .i64 a,.int .i64 b,.int .i64 c,.int .i64 d] (.tup [.int .i64 (aV a b c d),.int .i64 (aZ a b c d)]):=by
 have hp:∀{z:Bool},(bif (bif (bif a==1 then true else c==1)then true else !cO a b)then true else !cO c d)=z→kU a b c d= !z:=fun q=>by
  subst q;unfold kU;simp only[bne];generalize (a==1)=x;generalize (c==1)=y;cases x<;>cases y<;>cases cO a b<;>cases cO c d<;>rfl
 refine aO.intro (nt:=46) aH mixed (by kernel_rfl) Tryz.func103 rfl rfl rfl rfl rfl ?_;refine Or.inl (eI _ (aI (fun _=>GN a b) ?_));refine Or.inl (eI _ (aI (fun _=>GN c d) ?_));refine aI (fun q=> ?_) (fun q=> ?_)
 ·refine Eq.trans (Eq.refl _) ?_;simp only[aV,aZ,hp q];rfl
 refine Or.inl (eI _ (aI (Wh a b c d) ?_));refine aI (fun q2=> ?_) (fun q2=> ?_)
 ·refine Eq.trans (Eq.refl _) ?_;have q2:(rule a b c d !=0)=true:=q2;have q2:¬rule a b c d=0:=by simpa using q2
  simp only[aV,aZ,hp q,q2,if_false];rfl
 have q2:(rule a b c d !=0)=false:=q2;have q2:rule a b c d=0:=by simpa using q2
 refine Or.inl (eI _ (aI (Wh c d a b) ?_));refine aI (fun q3=> ?_) (fun q3=> ?_)
 ·refine Eq.trans (Eq.refl _) ?_;have q3:(rule c d a b !=0)=true:=q3;have q3:¬rule c d a b=0:=by simpa using q3
  simp only[aV,aZ,hp q,q2,q3,if_false];rfl
 ·refine Eq.trans (Eq.refl _) ?_;have q3:(rule c d a b !=0)=false:=q3;have q3:rule c d a b=0:=by simpa using q3
  simp only[aV,aZ,hp q,q2,q3];rfl
theorem R8(a b c d:Int):aO Tryz.prog 173 [.int .i64 a,.int .i64 b,.int .i64 c,.int .i64 d] (.bool (kU a b c d)):=by
 refine aO.intro (nt:=25) aH mixed (by kernel_rfl) Tryz.func173 rfl rfl rfl rfl rfl ?_;refine Or.inl (eI _ (aI (K9 a b) ?_));refine Or.inl (eI _ (aI (fun _=>K9 c d) ?_));refine Eq.trans (Eq.refl _) ?_;simp only[oO,kU]
theorem L6(a b c d:Int):aO Tryz.prog 136 [.int .i64 a,.int .i64 b,.int .i64 c,.int .i64 d] (.int .i64 (aV a b c d)):=by
 refine aO.intro (nt:=31) aH mixed (by kernel_rfl) Tryz.func136 rfl rfl rfl rfl rfl ?_;refine Or.inl (eI _ (aI (R8 a b c d) ?_));refine aI (fun q=> ?_) (fun q=> ?_)
 ·refine aI (Eq.trans (Eq.refl _) ?_) rfl;have q:(!kU a b c d)=true:=q;simp[aV,show kU a b c d=false by simpa using q]
 have q:kU a b c d=true:=by have q:(!kU a b c d)=false:=q;simpa using q
 refine Or.inl (eI _ (aI (Om a b c d) ?_));refine aI (fun q2=>Or.inl (eI _ (aI (Om c d a b) ?_))) (fun q2=> ?_)
 all_goals (refine aI (fun q3=> ?_) (fun q3=> ?_))
 all_goals (refine aI (Eq.trans (Eq.refl _) ?_) rfl)
 all_goals (simp_all [aV])
theorem QO(a b c d:Int):aO Tryz.prog 167 [.int .i64 a,.int .i64 b,.int .i64 c,.int .i64 d] (.int .i64 (aZ a b c d)):=by
 refine aO.intro (nt:=27) aH mixed (by kernel_rfl) Tryz.func167 rfl rfl rfl rfl rfl ?_;refine Or.inl (eI _ (aI (R8 a b c d) ?_));refine aI (fun q=> ?_) (fun q=> ?_)
 ·refine aI (Eq.trans (Eq.refl _) ?_) rfl;have q:(!kU a b c d)=true:=q;simp[aZ,show kU a b c d=false by simpa using q]
 have q:kU a b c d=true:=by have q:(!kU a b c d)=false:=q;simpa using q
 refine Or.inl (eI _ (aI (Om a b c d) ?_));refine aI (fun q2=> ?_) (fun q2=> ?_)
 ·refine aI (Eq.trans (Eq.refl _) ?_) rfl
  simp_all [aZ]
 refine Or.inl (eI _ (aI (Om c d a b) ?_));refine aI (fun q3=> ?_) (fun q3=> ?_)
 all_goals (refine aI (Eq.trans (Eq.refl _) ?_) rfl)
 all_goals (simp_all [aZ])
theorem wZ:bH Tryz.prog 59=true:=by kernel_rfl
theorem Qq(xs:List aj)(p:Int×Int)(h1:0≤p.1∧p.1<(xs.length:Nat))(h2:0≤p.2∧p.2<(xs.length:Nat)):aO Tryz.prog 59 [.rp aR xs,vP p] (.tup [.int .i64 (bg (ah xs p.1) (ah xs p.2)).1,.bool (bg (ah xs p.1) (ah xs p.2)).2]):=by
 refine aO.intro (nt:=60) aH mixed wZ Tryz.func59 rfl rfl rfl rfl rfl ?_;refine aI h1 ?_;refine aI h2 ?_;refine aI (by kernel_rfl) ?_;refine Or.inl (eI _ (aI (U3 _ _ _ _) ?_));refine aI (fun q1=> ?_) (fun q1=> ?_)
 ·refine aI (fun q2=> ?_) (fun q2=> ?_)
  ·have e:=Lh (x:=ah xs p.1) (y:=ah xs p.2) q1 q2;rw[e];exact rfl
  ·have e:=Lg (x:=ah xs p.1) (y:=ah xs p.2) q1 q2;rw[e];exact rfl
 ·refine aI (fun q2=> ?_) (fun q2=> ?_)
  ·have e:=Lf (x:=ah xs p.1) (y:=ah xs p.2) q1 q2;rw[e];exact rfl
  ·have e:=Le (x:=ah xs p.1) (y:=ah xs p.2) q1 q2;rw[e];exact rfl
theorem wW(c p:Int):aO Tryz.prog 161 [.int .i64 c,.int .i64 p] (.tup [.int .i64 (dK c p).1,.int .i64 (dK c p).2]):=by
 refine aO.intro (nt:=34) aH mixed (by kernel_rfl) Tryz.func161 rfl rfl rfl rfl rfl ?_
 repeat' (refine aI (fun _=> ?_) (fun _=> ?_))
 all_goals (refine Eq.trans (Eq.refl _) ?_;(first|(simp only[dK,jP, *,qG,qH];done)|(simp_all [dK,jP];done)|(simp_all [dK,jP];grind)))
theorem Cv(x:aj)(h1:x.data.length≤1048576)(h2:x.aJ.length≤1048576):aA Tryz.prog 157 [.agg [.int .i64 x.1,.int .i64 x.2.1,.int .i64 x.2.2.1,.rsl (.int .i64) x.2.2.2.1,.rsl aM x.2.2.2.2]] [] (.agg [.int .i64 x.1,.int .i64 x.2.1,.int .i64 x.2.2.1,.sl 10000,.sl 10001]) [.row 10000 2 1 (.int .i64) x.2.2.2.1 [],.row 10001 102 2 aM x.2.2.2.2 []]:=by
 refine aA.intro (nt:=12) aH mixed (by kernel_rfl) Tryz.func157 rfl rfl rfl rfl rfl rfl ?_;refine Or.inr (eI _ (eI _ (aI (Lj _ h1) ?_)));refine Or.inr (eI _ (eI _ (aI (Ug _ h2) ?_)));refine aI (by kernel_rfl) ?_;refine fin [(10000,5),(10001,8)] (aI rfl ?_);exact⟨⟨rfl,nP⟩,⟨rfl,nP⟩,trivial⟩
theorem F7:bH Tryz.prog 102=true:=by kernel_rfl
theorem y8(xs:List aj)(h:bE xs):aA Tryz.prog 102 [.agg [.rsl aD xs]] [] (.agg [.sl 10000]) [.row 10000 131 5 aD xs []]:=by
 obtain⟨hl,ha⟩:=h;refine aA.intro (nt:=27) aH mixed F7 Tryz.func102 rfl rfl rfl rfl rfl rfl ?_;refine aI ⟨Int.le_refl 0,by omega,by omega⟩ ?_;refine lp Nat (fun i=>[(14,.int .i64 (i:Nat))]) (fun i=>[.bV 2 30 [.raw (.slice none 0 0)],.bV 3 30 [.sl 20000],.row 20000 131 5 aD (xs.take i) []]) (fun i=>xs.length-i) (fun i=>i≤xs.length) 0 (Nat.zero_le _) ?_ ?_
 ·exact hd [(20000,9)] rfl (aI (aI rfl rfl) trivial) ⟨trivial,⟨rfl,trivial⟩,trivial,⟨rfl,trivial⟩,⟨rfl,nP⟩,trivial⟩
 intro i hi;refine aI (fun q1=> ?_) (fun q1=> ?_)
 ·have hlt:i<xs.length:=by simpa using q1
  refine aI (by show(0:Int)≤(i:Nat)∧((i:Nat):Int)<(xs.length:Nat);omega) ?_;refine Or.inr (eI _ (eI _ (aI (Cv (ah xs i) (ha i).1 (ha i).2) ?_)));refine aI (by show(xs.take i).length+1≤_;rw[List.length_take];omega) ?_;refine aI (by kernel_rfl) ?_;refine aP (i+1) hlt ?_ ?_
  ·refine hd [(20000,23)] rfl (aI (aI (dB (by omega)) rfl) trivial) ⟨trivial,⟨rfl,trivial⟩,trivial,⟨rfl,trivial⟩,⟨?_,nP⟩,trivial⟩;show xs.take i++[ah xs i]=xs.take (i+1);rw[List.take_add_one,qB hlt];unfold ah elt;rw[qK,qC,qB hlt];rfl
  ·show xs.length-(i+1)<xs.length-i;omega
 ·have hge:xs.length≤i:=by simpa using q1
  refine fin [(10000,20000)] (aI rfl ?_);refine⟨⟨?_,nP⟩,trivial⟩;show xs.take i=xs;rw[qN hge]
abbrev PU(g:Nat)(xs:List aj)(us:List Value)(bk:List (El aR))(kv:List (Int×Bool)):List Tok:=[.bV 10000 87 [.sl g,.rsl aR bk,.mp 10002],.row g 131 5 aD xs us,.map 10002 .bool kv]
theorem RL:bH Tryz.prog 110=true:=by kernel_rfl
theorem Qs:aA Tryz.prog 163 [.raw (.slice none 0 0)] [] (.sl 10000) [.row 10000 2 1 (.int .i64) [] []]:=by
 refine aA.intro (nt:=8) aH mixed wD Tryz.func163 rfl rfl rfl rfl rfl rfl ?_;refine aI (fun h1=> ?_) (fun h1=>by cases h1);refine WX [⟨2,30000,2,1,.int .i64⟩] [(10000,30000)] (aI rfl ?_);exact⟨⟨rfl,nP⟩,trivial⟩
theorem zX(xs:List aj)(us:List Value)(bk:List (El aR))(kv:List (Int×Bool))(k l v:Int)(n:Nat)(hl:xs.length≤1000000)(hn:n≤1000000):aA Tryz.prog 110 [.ptr 10000 0,.int .i64 k,.int .i64 l,.int .i64 v,.raw (.slice none 0 0),.int .i64 (n:Nat)] (tW xs us bk kv) (.int .i64 (xs.length:Nat)) (PU 10003 (xs++[bB k l v [] n]) us bk kv):=by
 refine aA.intro (nt:=39) aH mixed RL Tryz.func110 rfl rfl rfl rfl rfl rfl ?_;refine Or.inr (eI _ (eI _ (aI Qs ?_)));refine aI ⟨by omega,Int.le_refl _,by omega⟩ ?_;refine aI (by show xs.length+1≤_;omega) ?_;refine aI (by kernel_rfl) ?_;refine fin [(10003,28)] (aI ?_ ?_)
 ·show IntKind.i64.wrap (((xs++[bB k l v [] n]).length:Nat)-1)=((xs.length:Nat):Int)∧IntKind.i64=IntKind.i64;rw[qA,qJ,qO _ (by omega)];exact⟨by omega,rfl⟩
 ·exact⟨trivial,⟨rfl,rfl,rfl,trivial⟩,⟨rfl,pR _⟩,rfl,trivial⟩
theorem Qt(ds:List Int)(hd:ds.length≤1048576):aA Tryz.prog 163 [.sl 10000] [.row 10000 2 1 (.int .i64) ds []] (.sl 10001) [.row 10001 2 1 (.int .i64) ds [],.row 10000 2 1 (.int .i64) ds []]:=
 aA.yC (ts2:=[.row 10001 2 1 (.int .i64) ds []]) aH [0] wD (Lj ds hd) rfl rfl rfl
theorem WE(xs:List aj)(us:List Value)(bk:List (El aR))(kv:List (Int×Bool))(k l v:Int)(n:Nat)(ds:List Int)(hl:xs.length≤1000000)(hn:n≤1000000)(hd:ds.length≤1000000):aA Tryz.prog 110 [.ptr 10000 0,.int .i64 k,.int .i64 l,.int .i64 v,.sl 10003,.int .i64 (n:Nat)] (tW xs us bk kv++[.row 10003 2 1 (.int .i64) ds []]) (.int .i64 (xs.length:Nat)) (PU 10004 (xs++[bB k l v ds n]) us bk kv):=by
 refine aA.intro (nt:=39) aH mixed RL Tryz.func110 rfl rfl rfl rfl rfl rfl ?_;refine Or.inr (eI _ (eI _ (aI (Qt ds (by omega)) ?_)));refine aI ⟨by omega,Int.le_refl _,by omega⟩ ?_;refine aI (by show xs.length+1≤_;omega) ?_;refine aI (by kernel_rfl) ?_;refine fin [(10004,28)] (aI ?_ ?_)
 ·show IntKind.i64.wrap (((xs++[bB k l v ds n]).length:Nat)-1)=((xs.length:Nat):Int)∧IntKind.i64=IntKind.i64;rw[qA,qJ,qO _ (by omega)];exact⟨by omega,rfl⟩
 ·exact⟨trivial,⟨rfl,rfl,rfl,trivial⟩,⟨rfl,pR _⟩,rfl,trivial⟩
theorem Uf(xs:List aj)(us:List Value)(y:Int)(hdr:Value)(hy:zG xs us y 5 3 hdr)(hd:(ah xs y).data.length≤1048576):aA Tryz.prog 163 [.nh y 3 (ah xs y).data.length hdr] [.row 10000 131 5 aD xs us] (.sl 10001) [.row 10001 2 1 (.int .i64) (ah xs y).data [],.row 10000 131 5 aD xs us]:=
 aA.yC (ts2:=[.row 10001 2 1 (.int .i64) (ah xs y).data []]) aH [0] wD (eI 10000 (aI hy (Lj (ah xs y).data hd))) rfl rfl rfl
theorem VB(xs:List aj)(us:List Value)(bk:List (El aR))(kv:List (Int×Bool))(k l v:Int)(n:Nat)(y:Int)(hdr:Value)(hl:xs.length≤1000000)(hn:n≤1000000)(hy:zG xs us y 5 3 hdr)(hd:(ah xs y).data.length≤1000000):aA Tryz.prog 110 [.ptr 10000 0,.int .i64 k,.int .i64 l,.int .i64 v,.nh y 3 (ah xs y).data.length hdr,.int .i64 (n:Nat)] (tW xs us bk kv) (.int .i64 (xs.length:Nat)) (PU 10003 (xs++[bB k l v (ah xs y).data n]) us bk kv):=by
 refine aA.intro (nt:=39) aH mixed RL Tryz.func110 rfl rfl rfl rfl rfl rfl ?_;refine Or.inr (eI _ (eI _ (aI (Uf xs us y hdr hy (by omega)) ?_)));refine aI ⟨by omega,Int.le_refl _,by omega⟩ ?_;refine aI (by show xs.length+1≤_;omega) ?_;refine aI (by kernel_rfl) ?_;refine fin [(10003,28)] (aI ?_ ?_)
 ·show IntKind.i64.wrap (((xs++[bB k l v (ah xs y).data n]).length:Nat)-1)=((xs.length:Nat):Int)∧IntKind.i64=IntKind.i64;rw[qA,qJ,qO _ (by omega)];exact⟨by omega,rfl⟩
 ·exact⟨trivial,⟨rfl,rfl,rfl,trivial⟩,⟨rfl,pR _⟩,rfl,trivial⟩
theorem F9:bH Tryz.prog 160=true:=by kernel_rfl
theorem Ee(xs:List aj)(b:Int)(h:bE xs)(hb:0≤b∧b≤8)(hlv:∀i:Nat,0≤(ah xs i).2.1∧(ah xs i).2.1≤8)(hok:fJ b xs=true):aA Tryz.prog 160 [.agg [.rsl aD xs],.int .i64 b] [] (.tup [.agg [.sl 10000],.bool true]) [.row 10000 131 5 aD (cB b xs) []]:=by
 refine aA.intro (nt:=43) aH mixed F9 Tryz.func160 rfl rfl rfl rfl rfl rfl ?_;refine Or.inr (eI _ (eI _ (aI (y8 xs h) ?_)));refine lp Nat (fun i=>[(14,.int .i64 (i:Nat)),(12,.sl 20000)]) (fun i=>[.bV 4 30 [.raw (.slice none 0 0)],.bV 6 30 [.sl 20000],.row 20000 131 5 aD (fG b xs i) []]) (fun i=>xs.length-i) (fun i=>i≤xs.length∧fJ b (xs.take i)=true) 0 ⟨Nat.zero_le _,rfl⟩ ?_ ?_
 ·exact hd [(20000,10)] rfl (aI (aI rfl rfl) (aI rfl trivial)) ⟨trivial,⟨rfl,trivial⟩,trivial,⟨rfl,trivial⟩,⟨rfl,nP⟩,trivial⟩
 intro i ⟨hi,hi2⟩;refine aI (fun q1=> ?_) (fun q1=> ?_)
 ·have hlt:i<xs.length:=by simpa using q1
  refine aI ⟨by omega,by rw[nG];omega⟩ ?_;refine Or.inl (eI _ (aI (BQ _) ?_));have hat:ah (fG b xs i) (i:Nat)=ah xs (i:Nat):=Ec hlt;refine aI (fun q2=> ?_) (fun q2=> ?_)
  ·have q3:(!(bR (ah (fG b xs i) (i:Nat)).1))=true:=q2;rw[hat]at q3;have hlev:bR (ah xs (i:Nat)).1=false:=by simpa using q3
   refine aP (i+1) ⟨hlt,?_⟩ ?_ ?_
   ·rw[mM hlt,hi2,hlev];rfl
   ·exact hd [] rfl (aI (aI (dB (by have:=h.1;omega)) rfl) (aI rfl trivial)) ⟨trivial,⟨rfl,trivial⟩,trivial,⟨rfl,trivial⟩,⟨(Ed hlt hlev).symm,nP⟩,trivial⟩
   ·show xs.length-(i+1)<xs.length-i;omega
  ·have q3:(!(bR (ah (fG b xs i) (i:Nat)).1))=false:=q2;rw[hat]at q3;have hlev:bR (ah xs (i:Nat)).1=true:=by simpa using q3
   have hl2:=hlv i;have hw:IntKind.i64.wrap ((ah xs (i:Nat)).2.1+b)=(ah xs (i:Nat)).2.1+b:=qO _ (by omega)
   have hset:(fG b xs i).set i ((ah (fG b xs i) (i:Nat)).1,IntKind.i64.wrap ((ah (fG b xs i) (i:Nat)).2.1+b),(ah (fG b xs i) (i:Nat)).2.2)=fG b xs (i+1):=by
    rw[yI hlt,hat,hw];unfold iR;rw[show bR (ah xs (i:Nat)).kind=true from hlev];rfl
   have hlv2:(ah ((fG b xs i).set i ((ah (fG b xs i) (i:Nat)).1,IntKind.i64.wrap ((ah (fG b xs i) (i:Nat)).2.1+b),(ah (fG b xs i) (i:Nat)).2.2)) (i:Nat)).2.1=(ah xs (i:Nat)).2.1+b:=by
    rw[kR,if_pos ⟨by simp,by rw[nG];exact hlt⟩,hat,hw]
   refine aI (fun q4=> ?_) (fun q4=> ?_)
   all_goals have q5:=q4
   all_goals replace q5:=(congrArg (fun z:Int=>decide ((8:Int)<z)) hlv2).symm.trans q5
   ·exfalso;have h1:=IQ hok (i+1);rw[mM hlt,hlev]at h1;have q6:(8:Int)<(ah xs (i:Nat)).2.1+b:=by simpa using q5
    simp at h1;omega
   ·have hle:(ah xs (i:Nat)).2.1+b≤8:=by simpa using q5
    refine aP (i+1) ⟨hlt,?_⟩ ?_ ?_
    ·rw[mM hlt,hi2,hlev];simpa using hle
    ·exact hd [] rfl (aI (aI (dB (by have:=h.1;omega)) rfl) (aI rfl trivial)) ⟨trivial,⟨rfl,trivial⟩,trivial,⟨rfl,trivial⟩,⟨hset,nP⟩,trivial⟩
    ·show xs.length-(i+1)<xs.length-i;omega
 ·have hge:xs.length≤i:=by
   have q2:decide (((i:Nat):Int)<((fG b xs 0).length:Nat))=false:=q1;rw[nG]at q2;simpa using q2
  have hie:i=xs.length:=by omega
  refine fin [(10000,20000)] (aI rfl ?_);refine⟨⟨?_,nP⟩,trivial⟩;show fG b xs i=cB b xs;rw[hie];unfold fG cB;simp
theorem KM(xs:List aj)(b:Int)(h:bE xs)(hb:0≤b∧b≤8)(hlv:∀i:Nat,0≤(ah xs i).2.1∧(ah xs i).2.1≤8)(hok:fJ b xs=false):aA Tryz.prog 160 [.agg [.rsl aD xs],.int .i64 b] [] (.tup [.agg [.raw (.slice none 0 0)],.bool false]) []:=by
 refine aA.intro (nt:=43) aH mixed F9 Tryz.func160 rfl rfl rfl rfl rfl rfl ?_;refine Or.inr (eI _ (eI _ (aI (y8 xs h) ?_)));refine lp Nat (fun i=>[(14,.int .i64 (i:Nat)),(12,.sl 20000)]) (fun i=>[.bV 4 30 [.raw (.slice none 0 0)],.bV 6 30 [.sl 20000],.row 20000 131 5 aD (fG b xs i) []]) (fun i=>xs.length-i) (fun i=>i≤xs.length∧fJ b (xs.take i)=true) 0 ⟨Nat.zero_le _,rfl⟩ ?_ ?_
 ·exact hd [(20000,10)] rfl (aI (aI rfl rfl) (aI rfl trivial)) ⟨trivial,⟨rfl,trivial⟩,trivial,⟨rfl,trivial⟩,⟨rfl,nP⟩,trivial⟩
 intro i ⟨hi,hi2⟩;refine aI (fun q1=> ?_) (fun q1=> ?_)
 ·have hlt:i<xs.length:=by simpa using q1
  refine aI ⟨by omega,by rw[nG];omega⟩ ?_;refine Or.inl (eI _ (aI (BQ _) ?_));have hat:ah (fG b xs i) (i:Nat)=ah xs (i:Nat):=Ec hlt;refine aI (fun q2=> ?_) (fun q2=> ?_)
  ·have q3:(!(bR (ah (fG b xs i) (i:Nat)).1))=true:=q2;rw[hat]at q3;have hlev:bR (ah xs (i:Nat)).1=false:=by simpa using q3
   refine aP (i+1) ⟨hlt,?_⟩ ?_ ?_
   ·rw[mM hlt,hi2,hlev];rfl
   ·exact hd [] rfl (aI (aI (dB (by have:=h.1;omega)) rfl) (aI rfl trivial)) ⟨trivial,⟨rfl,trivial⟩,trivial,⟨rfl,trivial⟩,⟨(Ed hlt hlev).symm,nP⟩,trivial⟩
   ·show xs.length-(i+1)<xs.length-i;omega
  ·have q3:(!(bR (ah (fG b xs i) (i:Nat)).1))=false:=q2;rw[hat]at q3;have hlev:bR (ah xs (i:Nat)).1=true:=by simpa using q3
   have hl2:=hlv i;have hw:IntKind.i64.wrap ((ah xs (i:Nat)).2.1+b)=(ah xs (i:Nat)).2.1+b:=qO _ (by omega)
   have hset:(fG b xs i).set i ((ah (fG b xs i) (i:Nat)).1,IntKind.i64.wrap ((ah (fG b xs i) (i:Nat)).2.1+b),(ah (fG b xs i) (i:Nat)).2.2)=fG b xs (i+1):=by
    rw[yI hlt,hat,hw];unfold iR;rw[show bR (ah xs (i:Nat)).kind=true from hlev];rfl
   have hlv2:(ah ((fG b xs i).set i ((ah (fG b xs i) (i:Nat)).1,IntKind.i64.wrap ((ah (fG b xs i) (i:Nat)).2.1+b),(ah (fG b xs i) (i:Nat)).2.2)) (i:Nat)).2.1=(ah xs (i:Nat)).2.1+b:=by
    rw[kR,if_pos ⟨by simp,by rw[nG];exact hlt⟩,hat,hw]
   refine aI (fun q4=> ?_) (fun q4=> ?_)
   all_goals have q5:=q4
   all_goals replace q5:=(congrArg (fun z:Int=>decide ((8:Int)<z)) hlv2).symm.trans q5
   ·refine fin [] (aI rfl trivial)
   ·have hle:(ah xs (i:Nat)).2.1+b≤8:=by simpa using q5
    refine aP (i+1) ⟨hlt,?_⟩ ?_ ?_
    ·rw[mM hlt,hi2,hlev];simpa using hle
    ·exact hd [] rfl (aI (aI (dB (by have:=h.1;omega)) rfl) (aI rfl trivial)) ⟨trivial,⟨rfl,trivial⟩,trivial,⟨rfl,trivial⟩,⟨hset,nP⟩,trivial⟩
    ·show xs.length-(i+1)<xs.length-i;omega
 ·have hge:xs.length≤i:=by
   have q2:decide (((i:Nat):Int)<((fG b xs 0).length:Nat))=false:=q1;rw[nG]at q2;simpa using q2
  have hie:i=xs.length:=by omega
  exfalso;rw[hie,List.take_length]at hi2;rw[hi2]at hok;cases hok
theorem NR:bH Tryz.prog 104=true:=by kernel_rfl
theorem yZ(xs:List aj)(p:Int×Int)(h1:0≤p.1∧p.1<(xs.length:Nat))(h2:0≤p.2∧p.2<(xs.length:Nat)):aO Tryz.prog 59 [.rp aR xs,vP p] (.tup [.int .i64 (bg (ah xs p.1) (ah xs p.2)).1,.bool (bg (ah xs p.1) (ah xs p.2)).2]):=Qq xs p h1 h2
theorem WQ(xs:List aj)(bk:List (List aj))(m:Value)(p:Int×Int)(h1:0≤p.1∧p.1<(xs.length:Nat))(h2:0≤p.2∧p.2<(xs.length:Nat))(hb:Gu bk)(hs:∀i:Nat,bE (bO bk i))
  (hx:(bg (ah xs p.1) (ah xs p.2)).1=7→0≤(ah xs (bif (bg (ah xs p.1) (ah xs p.2)).2 then p.2 else p.1)).2.2.1∧0≤(ah xs (bif (bg (ah xs p.1) (ah xs p.2)).2 then p.2 else p.1)).2.1∧(ah xs (bif (bg (ah xs p.1) (ah xs p.2)).2 then p.2 else p.1)).2.1≤8):
  aO Tryz.prog 104 [.rp Zz (xs,(bk,m)),vP p] (.tup [.int .i64 (checkN bk xs p).1,.int .i64 (checkN bk xs p).2.1,.int .i64 (checkN bk xs p).2.2.1,.int .i64 (checkN bk xs p).2.2.2]):=by
 refine aO.intro (nt:=67) aH mixed NR Tryz.func104 rfl rfl rfl rfl rfl ?_;refine Or.inl (eI _ (aI (yZ xs p h1 h2) ?_));refine aI (by kernel_rfl) ?_;refine aI (by kernel_rfl) ?_;generalize hc:bg (ah xs p.1) (ah xs p.2)=c at*
 have hbk:∀x:Int,0≤x→(∀j:Nat,0≤(ah (bO bk x) j).2.1∧(ah (bO bk x) j).2.1≤8)∧bE (bO bk x):=fun x h=>by
  have e:bO bk x=bO bk (x.toNat:Nat):=by unfold bO;exact Nb (by omega)
  rw[e];exact⟨hb _,hs _⟩
 refine aI (fun q1=> ?_) (fun q1=> ?_)
 ·have q1':c.2=true:=q1;rw[q1']at hx;have hx7:c.1=7→0≤(ah xs p.2).2.2.1∧0≤(ah xs p.2).2.1∧(ah xs p.2).2.1≤8:=hx;refine aI (fun q2=> ?_) (fun q2=> ?_)
  ·have q2':c.1=8:=by have q3:(c.1==8)=true:=q2;simpa using q3
   have e:checkN bk xs p=(0,0,0,11):=by simp[checkN,hc,q1',q2']
   rw[e];exact rfl
  have q2':c.1≠8:=by have q3:(c.1==8)=false:=q2;simpa using q3
  refine aI (fun q3=> ?_) (fun q3=> ?_)
  ·have q3':c.1=7:=by have q4:(c.1==7)=true:=q3;simpa using q4
   obtain⟨v0,l0,l1⟩:=hx7 q3';refine aI h2 ?_;refine aI (by kernel_rfl) ?_;refine aI (fun q4=> ?_) (fun q4=> ?_)
   ·have q4':(bk.length:Int)≤(ah xs p.2).2.2.1:=by have q5:decide ((bk.length:Int)≤(ah xs p.2).2.2.1)=true:=q4;simpa using q5
    have e:checkN bk xs p=(0,0,0,3):=by simp[checkN,hc,q1',q3',q4']
    rw[e];exact rfl
   have q4':(ah xs p.2).2.2.1<(bk.length:Nat):=by have q5:decide ((bk.length:Int)≤(ah xs p.2).2.2.1)=false:=q4;simpa using q5
   have q4n:¬((bk.length:Int)≤(ah xs p.2).2.2.1):=by omega
   refine aI ⟨v0,q4'⟩ ?_;obtain⟨k1,k2⟩:=hbk _ v0;cases hso:fJ (ah xs p.2).2.1 (bO bk (ah xs p.2).2.2.1)with
   |true=>
    refine Or.inr (eI _ (eI _ (aI (Ee (bO bk (ah xs p.2).2.2.1) (ah xs p.2).2.1 k2 ⟨l0,l1⟩ k1 hso) ?_)));refine aI (by kernel_rfl) ?_;refine aI (fun q5=>by cases q5) (fun q5=> ?_);have e:checkN bk xs p=(c.1,p.2,p.1,0):=by simp[checkN,hc,q1',q3',q4n,hso]
    rw[e];exact rfl
   |false=>
    refine Or.inr (eI _ (eI _ (aI (KM (bO bk (ah xs p.2).2.2.1) (ah xs p.2).2.1 k2 ⟨l0,l1⟩ k1 hso) ?_)));refine aI (by kernel_rfl) ?_;refine aI (fun q5=> ?_) (fun q5=>by cases q5);have e:checkN bk xs p=(0,0,0,9):=by simp[checkN,hc,q1',q3',q4n,hso]
    rw[e];exact rfl
  ·have q3':c.1≠7:=by have q4:(c.1==7)=false:=q3;simpa using q4
   have e:checkN bk xs p=(c.1,p.2,p.1,0):=by have b2:(c.1==8)=false:=q2;have b3:(c.1==7)=false:=q3;simp only[checkN,hc,q1',b2,b3,qG,qH]
   rw[e];exact rfl
 ·have q1':c.2=false:=q1;rw[q1']at hx;have hx7:c.1=7→0≤(ah xs p.1).2.2.1∧0≤(ah xs p.1).2.1∧(ah xs p.1).2.1≤8:=hx;refine aI (fun q2=> ?_) (fun q2=> ?_)
  ·have q2':c.1=8:=by have q3:(c.1==8)=true:=q2;simpa using q3
   have e:checkN bk xs p=(0,0,0,11):=by simp[checkN,hc,q1',q2']
   rw[e];exact rfl
  have q2':c.1≠8:=by have q3:(c.1==8)=false:=q2;simpa using q3
  refine aI (fun q3=> ?_) (fun q3=> ?_)
  ·have q3':c.1=7:=by have q4:(c.1==7)=true:=q3;simpa using q4
   obtain⟨v0,l0,l1⟩:=hx7 q3';refine aI h1 ?_;refine aI (by kernel_rfl) ?_;refine aI (fun q4=> ?_) (fun q4=> ?_)
   ·have q4':(bk.length:Int)≤(ah xs p.1).2.2.1:=by have q5:decide ((bk.length:Int)≤(ah xs p.1).2.2.1)=true:=q4;simpa using q5
    have e:checkN bk xs p=(0,0,0,3):=by simp[checkN,hc,q1',q3',q4']
    rw[e];exact rfl
   have q4':(ah xs p.1).2.2.1<(bk.length:Nat):=by have q5:decide ((bk.length:Int)≤(ah xs p.1).2.2.1)=false:=q4;simpa using q5
   have q4n:¬((bk.length:Int)≤(ah xs p.1).2.2.1):=by omega
   refine aI ⟨v0,q4'⟩ ?_;obtain⟨k1,k2⟩:=hbk _ v0;cases hso:fJ (ah xs p.1).2.1 (bO bk (ah xs p.1).2.2.1)with
   |true=>
    refine Or.inr (eI _ (eI _ (aI (Ee (bO bk (ah xs p.1).2.2.1) (ah xs p.1).2.1 k2 ⟨l0,l1⟩ k1 hso) ?_)));refine aI (by kernel_rfl) ?_;refine aI (fun q5=>by cases q5) (fun q5=> ?_);have e:checkN bk xs p=(c.1,p.1,p.2,0):=by simp[checkN,hc,q1',q3',q4n,hso]
    rw[e];exact rfl
   |false=>
    refine Or.inr (eI _ (eI _ (aI (KM (bO bk (ah xs p.1).2.2.1) (ah xs p.1).2.1 k2 ⟨l0,l1⟩ k1 hso) ?_)));refine aI (by kernel_rfl) ?_;refine aI (fun q5=> ?_) (fun q5=>by cases q5);have e:checkN bk xs p=(0,0,0,9):=by simp[checkN,hc,q1',q3',q4n,hso]
    rw[e];exact rfl
  ·have q3':c.1≠7:=by have q4:(c.1==7)=false:=q3;simpa using q4
   have e:checkN bk xs p=(c.1,p.1,p.2,0):=by have b2:(c.1==8)=false:=q2;have b3:(c.1==7)=false:=q3;simp only[checkN,hc,q1',b2,b3,qG,qH]
   rw[e];exact rfl
theorem RU:bH Tryz.prog 106=true:=by kernel_rfl
theorem YI(xs:List aj)(bk:List (List aj))(m:Value)(c x y:Int)(hx:0≤x∧x<(xs.length:Nat))(hy:0≤y∧y<(xs.length:Nat))(h7:c=7→0≤(ah xs x).2.2.1∧(ah xs x).2.2.1<(bk.length:Nat)):
  aO Tryz.prog 106 [.rp Zz (xs,(bk,m)),.int .i64 c,.int .i64 x,.int .i64 y] (.int .i64 (r9 bk xs c x y)):=by
 refine aO.intro (nt:=76) aH mixed RU Tryz.func106 rfl rfl rfl rfl rfl ?_;refine aI (fun q1=> ?_) (fun q1=> ?_)
 ·refine aI (fun _=> ?_) (fun h=>by rw[show(c==3)=true from q1]at h;cases h);refine aI hy ?_;refine Or.inl (eI _ (aI (wW _ _) ?_));refine⟨?_,rfl⟩;simp only[r9,q1,qG];rfl
 refine aI (fun q2=> ?_) (fun q2=> ?_)
 ·refine aI hy ?_;refine Or.inl (eI _ (aI (wW _ _) ?_));refine⟨?_,rfl⟩;simp only[r9,q1,q2,qG,qH];rfl
 refine aI (fun q3=> ?_) (fun q3=> ?_)
 ·refine aI hx ?_;refine aI (fun q4=> ?_) (fun q4=> ?_)
  ·refine aI hx ?_;refine Or.inl (eI _ (aI (wW _ _) ?_));refine⟨?_,rfl⟩;have q4':((ah xs x).1==9)=true:=q4;simp only[r9,q1,q2,q3,q4',qG,qH];rfl
  ·refine Or.inl (eI _ (aI (wW _ _) ?_));refine⟨?_,rfl⟩;have q4':((ah xs x).1==9)=false:=q4;simp only[r9,q1,q2,q3,q4',qG,qH]
 refine aI (fun q4=> ?_) (fun q4=> ?_)
 ·have q4':c=7:=by have q5:(c==7)=true:=q4;simpa using q5
  refine aI hx ?_;refine aI (h7 q4') ?_;refine aI (by kernel_rfl) ?_;refine Or.inl (eI _ (aI (wW _ _) ?_));refine⟨?_,rfl⟩;simp only[r9,q1,q2,q3,q4,qG,qH];rfl
 ·refine Or.inl (eI _ (aI (wW _ _) ?_));refine⟨?_,rfl⟩;simp only[r9,q1,q2,q3,q4,qG,qH]
theorem RP:bH Tryz.prog 113=true:=by kernel_rfl
def OQ(g:Nat)(bk:List (List aj))(kv:List (Int×Bool))(q:aF)(l:List Tok):List Tok:=.bV 10000 87 [.sl g,.rsl aR bk,.mp 10002]:: .map 10002 .bool kv:: .bV 6 30 [.sl 38]:: .bV 9 102 [.int .i64 q.1,.int .i64 q.2]::l
def ZJ(g:Nat)(xs:List aj)(us:List Value)(hs:List (El (hol 5)))(ys:List aj)(usB:List Value):List Tok:=[.row g 131 5 (hol 5) (kV xs.length us++hs) us,.nest 20001 aD xs us,.row 38 131 5 aD ys usB]
def exT(b:Int)(t xs:List aj)(us:List Value)(bk:List (List aj))(kv:List (Int×Bool))(q:aF)(s:Nat×List Value):List Tok:=match s.1 with
 |0=>OQ 20000 bk kv q [.row 20000 131 5 aD xs us,.row 38 131 5 aD t []]
 |k+1=>OQ 20000 bk kv q (ZJ 20000 xs us (Ls t s.2 (k+1)) (sU b t (k+1)) s.2)
def exG(b:Int)(t xs:List aj)(us:List Value)(bk:List (List aj))(kv:List (Int×Bool))(q:aF)(s:Nat×List Value)(K:List Tok→Prop):Prop:=
 (s.1+1<t.length→∀usB:List Value,(s.1=0→usB.length=t.length*5)→(s.1≠0→usB=s.2)→K (OQ 20000 bk kv q (ZJ 20000 xs us (Ls t usB s.1) (sU b t s.1) usB)))∧
 (t.length≤s.1+1→(t.length=s.1+1∧s.2.length=t.length*5)∧K (OQ 20000 bk kv q [.row 20000 131 5 aD (xs++(sU b t s.1).drop 1) us]))
theorem zi{β:Nat→Value}{cx:Cx}{g:Nat}{bk:List (List aj)}{kv:List (Int×Bool)}{q:aF}{l:List Tok}{R:List fE}:(((OQ g bk kv q l).map (Tok.res cx β))++R).Perm (l.map (Tok.res cx β)++((OQ g bk kv q []).map (Tok.res cx β)++R)):=by
 have:((OQ g bk kv q []).map (Tok.res cx β)++(l.map (Tok.res cx β)++R)).Perm (l.map (Tok.res cx β)++((OQ g bk kv q []).map (Tok.res cx β)++R)):=by
  rw[←qF,←qF];exact List.Perm.append_right _ List.perm_append_comm
 exact this
theorem YH{b:Int}{t xs:List aj}{us:List Value}{bk:List (List aj)}{kv:List (Int×Bool)}{q:aF}(hl:us.length=xs.length*5)(h2:2≤t.length)(s:Nat×List Value)(K:List Tok→Prop)(cx:Cx)(β:Nat→Value)(w:World)(R:List fE)
  (h:exG b t xs us bk kv q s K) (hI:Inv cx.w0 cx.F0 w ((exT b t xs us bk kv q s).map (Tok.res cx β)++R)):∃rs',K rs'∧Inv cx.w0 cx.F0 w (rs'.map (Tok.res cx β)++R):=by
 obtain⟨k,usB⟩:=s
 match k with
 |0=>
  have h1:=h.1 (by show 0+1<t.length;omega);have hI1:=hI.perm zi;have hI2:Inv cx.w0 cx.F0 w (Tok.res cx β (.row 20000 131 5 aD xs us)::(Tok.res cx β (.row 38 131 5 aD t [])::((OQ 20000 bk kv q []).map (Tok.res cx β)++R))):=hI1;have hI3:=Inv.Xd (n:=20001) hI2 hl;have hI4:=hI3.perm ((List.Perm.cons _ (List.Perm.swap _ _ _)).trans (List.Perm.swap _ _ _));obtain⟨F,⟨hus,bs,raw,e,hg,hpre⟩,k2,_⟩:=Inv.take1 (r:=Tok.res cx β (.row 38 131 5 aD t [])) hI4;have hI5:Inv cx.w0 cx.F0 w (Tok.res cx β (.row 38 131 5 aD t raw)::_):=k2 _ F (fun _ h=>h) ⟨hus,bs,raw,e,hg,pR _⟩
  have hI6:=hI5.perm ((List.Perm.swap _ _ _).trans (List.Perm.cons _ (List.Perm.swap _ _ _)));refine⟨_,h1 raw (fun _=>hg.row.1) (fun h=>absurd rfl h),Inv.perm (rs:=(ZJ 20000 xs us (Ls t raw 0) (sU b t 0) raw).map (Tok.res cx β)++((OQ 20000 bk kv q []).map (Tok.res cx β)++R)) ?_ zi.symm⟩;show Inv cx.w0 cx.F0 w (Tok.res cx β (.row 20000 131 5 (hol 5) (kV xs.length us++[]) us)::(Tok.res cx β (.nest 20001 aD xs us)::(Tok.res cx β (.row 38 131 5 aD t raw)::((OQ 20000 bk kv q []).map (Tok.res cx β)++R))));rw[qS];exact hI6
 |k+1=>
  by_cases hk:k+1+1<t.length
  ·exact⟨_,h.1 hk usB (fun e=>by cases e) (fun _=>rfl),hI⟩
  ·obtain⟨⟨hk2,h3⟩,h4⟩:=h.2 (by show t.length≤k+1+1;omega);have hm:(sU b t (k+1)).length=t.length:=sD _;have hk3:t.length=k+1+1:=hk2;have hI2:Inv cx.w0 cx.F0 w (Tok.res cx β (.row 20000 131 5 (hol 5) (kV xs.length us++Ls t usB (k+1)) us)::(Tok.res cx β (.nest 20001 aD xs us)::(Tok.res cx β (.row 38 131 5 aD (sU b t (k+1)) usB)::((OQ 20000 bk kv q []).map (Tok.res cx β)++R)))):=hI.perm zi;have hI3:=Inv.merge hI2 hl (by rw[hm];exact h3) (by omega) (by rw[hm,hk3];exact Ur _);exact⟨_,h4,Inv.perm hI3 (zi (l:=[.row 20000 131 5 aD (xs++(sU b t (k+1)).drop 1) us])).symm⟩
theorem expI(t0:List aj)(xs:List aj)(us:List Value)(bk:List (List aj))(kv:List (Int×Bool))(x y:Int)(hx:0≤x∧x<(xs.length:Nat))(hv:0≤(ah xs x).2.2.1∧(ah xs x).2.2.1<(bk.length:Nat))(ht0:bO bk (ah xs x).2.2.1=t0)(hl:xs.length≤900000)(hs:bE t0)(ht:2≤t0.length)(htl:t0.length≤1000)(hr:ak t0 (0,0))(hlv:0≤(ah xs x).2.1∧(ah xs x).2.1≤8)(hlt8:∀i:Nat,0≤(ah t0 i).2.1∧(ah t0 i).2.1≤8)
  (hok:fJ (ah xs x).2.1 t0=true) (hpt:∀i j:Nat,sV (elt (dflt aM) (ah (cB (ah xs x).2.1 t0) (i:Nat)).2.2.2.2 (j:Nat)).1) (hps:∀i:Nat,(ah (cB (ah xs x).2.1 t0) (i:Nat)).2.2.2.2.length≤1048576) (hr2:ak (cB (ah xs x).2.1 t0) (0,0))
  (hy:ak (xs++((lW bk xs x).drop 1).map (cZ ((xs.length:Nat)-1))) (y,0)) (htop:ak (xs++((lW bk xs x).drop 1).map (cZ ((xs.length:Nat)-1))) ((au (lW bk xs x) (0,0)).1+((xs.length:Nat)-1),(au (lW bk xs x) (0,0)).2)):
  aA Tryz.prog 113 [.ptr 10000 0,.int .i64 x,.int .i64 y] (tW xs us bk kv) (.tup []) (PU 10003 (mG bk xs x y) us bk kv):=by
 refine aA.jA 10001 RP ?_;refine aI (fun _ us' hpre hlen=> ?_) (fun h=>absurd rfl h);have hT:lW bk xs x=cB (ah xs x).2.1 t0:=by unfold lW;rw[ht0]
 have hq:aA Tryz.prog 128 [.ptr 10000 0,vP (0,0)] [.bV 10000 30 [.sl 10001],.row 10001 131 5 aD (cB (ah xs x).2.1 t0) []] (vP (au (cB (ah xs x).2.1 t0) (0,0))) [.bV 10000 30 [.sl 10001],.row 10001 131 5 aD (cB (ah xs x).2.1 t0) []]:=
  aA.oh aH [61,0] LW (Bp _ _ hr2) rfl
 rw[hT]at hy htop;have hsh:=Ee t0 (ah xs x).2.1 hs hlv hlt8 hok;generalize hte:cB (ah xs x).2.1 t0=t at*;have htn:t.length=t0.length:=by rw[←hte];unfold cB;simp
 generalize hqe:au t (0,0)=q at*;refine aA.intro (nt:=101) aH mixed RP Tryz.func113 rfl rfl rfl rfl rfl rfl ?_;refine aI hx ?_;refine aI hv ?_;refine aI hx ?_;have hsh2:aA Tryz.prog 160 [.agg [.rsl aD (bO bk (ah xs x).2.2.1)],.int .i64 (ah xs x).2.1] [] (.tup [.agg [.sl 10000],.bool true]) [.row 10000 131 5 aD t []]:=by rw[ht0];exact hsh
 refine Or.inr (eI _ (eI _ (aI hsh2 ?_)));refine aI (by kernel_rfl) ?_;refine Or.inr (eI _ (eI _ (aI hq ?_)));refine aI (show(0:Int)≤1∧(1:Int)<(t.length:Nat) by omega) ?_;have hwb:IntKind.i64.wrap ((xs.length:Nat)-1)=((xs.length:Nat)-1:Int):=qO _ (by omega);generalize hbe:((xs.length:Nat)-1:Int)=b at*;refine lpG (Nat×List Value) (fun s=>[(54,.int .i64 (s.1:Nat)),(8,.int .i64 b)]) (exT b t xs us' bk kv q) (fun s=>t.length-s.1) (fun s=>s.1+1≤t.length∧(s.1≠0→s.2.length=t.length*5)) (0,[]) (exG b t xs us' bk kv q) (YH hlen (by omega)) ⟨by show 0+1≤_;omega,fun h=>absurd rfl h⟩ ?_ ?_
 ·exact hd [(20000,10001)] rfl (aI (aI rfl rfl) (aI (aI hwb rfl) trivial)) ⟨trivial,⟨rfl,rfl,rfl,trivial⟩,rfl,trivial,⟨rfl,trivial⟩,trivial,⟨⟨rfl,rfl⟩,⟨rfl,rfl⟩,trivial⟩,⟨rfl,pR _⟩,⟨rfl,nP⟩,trivial⟩
 intro s ⟨hs1,hs2⟩;refine aI (fun hlt usB hB0 hB1=> ?_) (fun hge=>aI ?_ ?_)
 ·have hB:usB.length=t.length*5:=by
   by_cases h:s.1=0
   ·exact hB0 h
   ·rw[hB1 h];exact hs2 h
  obtain⟨k,usS⟩:=s;refine aI (fun q1=> ?_) (fun q1=> ?_)
  ·have hlt':k+1<t.length:=hlt;have hi0:(0:Int)≤((1+k:Nat):Int):=by omega
   have hi1:((1+k:Nat):Int)<((sU b t k).length:Nat):=by rw[sD];omega
   have hBm:usB.length=(sU b t k).length*5:=by rw[sD];exact hB
   refine aI (show(0:Int)≤(k:Nat)∧((k:Nat):Int)<((t.length-1:Nat):Int) by omega) ?_;refine aI (sJ hBm hi0 hi1) ?_;refine lp Nat (fun j=>[(61,.int .i64 (j:Nat))]) (fun j=>.bV 11 131 [.int .i64 (ah (sU b t k) ((1+k:Nat):Int)).1,.int .i64 (ah (sU b t k) ((1+k:Nat):Int)).2.1,.int .i64 (ah (sU b t k) ((1+k:Nat):Int)).2.2.1,.nh ((1+k:Nat):Int) 3 (ah (sU b t k) ((1+k:Nat):Int)).2.2.2.1.length (usB.getD ((1+k)*5+3) undef),.nh ((1+k:Nat):Int) 4 (ah (sU b t k) ((1+k:Nat):Int)).2.2.2.2.length (usB.getD ((1+k)*5+4) undef)]::OQ 21000 bk kv q (ZJ 21000 xs us' (Ls t usB k) (Di b t k j) usB)) (fun j=>(ah t ((1+k:Nat):Int)).2.2.2.2.length-j) (fun j=>j≤(ah t ((1+k:Nat):Int)).2.2.2.2.length) 0 (Nat.zero_le _) ?_ ?_
   ·exact hd [(21000,20000)] rfl (aI (aI rfl rfl) trivial) ⟨trivial,⟨⟨rfl,rfl⟩,⟨rfl,rfl⟩,⟨rfl,rfl⟩,rfl,rfl,trivial⟩,trivial,⟨rfl,rfl,rfl,trivial⟩,rfl,trivial,⟨rfl,trivial⟩,trivial,⟨⟨rfl,rfl⟩,⟨rfl,rfl⟩,trivial⟩,⟨rfl,pR _⟩,⟨rfl,rfl⟩,⟨(Rx k).symm,pR _⟩,trivial⟩
   intro j hj;have hae:ah (sU b t k) ((1+k:Nat):Int)=ah t ((1+k:Nat):Int):=Xq (by omega);have hi2:((1+k:Nat):Int)<((Di b t k j).length:Nat):=by rw[ND];omega
   have hBm2:usB.length=(Di b t k j).length*5:=by rw[ND];exact hB
   refine aI (fun q3=> ?_) (fun q3=> ?_)
   ·have hlt2:j<(ah t ((1+k:Nat):Int)).2.2.2.2.length:=by
     have q4:decide (((j:Nat):Int)<((ah (sU b t k) ((1+k:Nat):Int)).2.2.2.2.length:Nat))=true:=q3;rw[hae]at q4;simpa using q4
    have hbnd:(0:Int)≤(j:Nat)∧((j:Nat):Int)<((ah (sU b t k) ((1+k:Nat):Int)).2.2.2.2.length:Nat):=by rw[hae];omega
    have hnp:zG (Di b t k j) usB ((1+k:Nat):Int) 5 4 (usB.getD ((1+k)*5+4) undef):=⟨hi0,hi2,rM hBm2 hi0 hi2 (by decide)⟩;have hpv:sV (elt (dflt aM) (ah t ((1+k:Nat):Int)).2.2.2.2 (j:Nat)).1:=hpt (1+k) j;unfold sV at hpv;have hpl:=hps (1+k)
    have hw:IntKind.i64.wrap ((elt (dflt aM) (ah (Di b t k j) ((1+k:Nat):Int)).2.2.2.2 (j:Nat)).1+b)=(elt (dflt aM) (ah t ((1+k:Nat):Int)).2.2.2.2 (j:Nat)).1+b:=by
     rw[Xp (by omega) hlt2];exact qO _ (by omega)
    refine aI hbnd ?_;refine eI 38 (aI ⟨hnp,hbnd⟩ ?_);refine aI hbnd ?_;refine eI 38 (aI ⟨hnp,hbnd⟩ ?_);refine aP (j+1) hlt2 ?_ ?_
    ·refine hd [] rfl (aI (aI (dB (by omega)) rfl) trivial) ⟨trivial,⟨⟨rfl,rfl⟩,⟨rfl,rfl⟩,⟨rfl,rfl⟩,rfl,rfl,trivial⟩,trivial,⟨rfl,rfl,rfl,trivial⟩,rfl,trivial,⟨rfl,trivial⟩,trivial,⟨⟨rfl,rfl⟩,⟨rfl,rfl⟩,trivial⟩,⟨rfl,pR _⟩,⟨rfl,rfl⟩,⟨Rw (by omega) hlt2 hw,pR _⟩,trivial⟩
    ·show(ah t ((1+k:Nat):Int)).2.2.2.2.length-(j+1)<(ah t ((1+k:Nat):Int)).2.2.2.2.length-j;omega
   have hje:j=(ah t ((1+k:Nat):Int)).2.2.2.2.length:=by
    have q4:decide (((j:Nat):Int)<((ah (sU b t k) ((1+k:Nat):Int)).2.2.2.2.length:Nat))=false:=q3;rw[hae]at q4;have q5:(ah t ((1+k:Nat):Int)).2.2.2.2.length≤j:=by simpa using q4
    omega
   refine aI (show(kV xs.length us'++Ls t usB k).length+1≤_ by rw[qA,xq,Us];omega) ?_;refine aI (by kernel_rfl) ?_;refine Rq (k+1,usB) ⟨by show k+1+1≤t.length;omega,fun _=>hB⟩ ?_ ?_
   ·refine hd [(20000,83)] rfl (aI (aI (dB (by omega)) rfl) (aI (aI rfl rfl) trivial)) ⟨trivial,⟨rfl,rfl,rfl,trivial⟩,rfl,trivial,⟨rfl,trivial⟩,trivial,⟨⟨rfl,rfl⟩,⟨rfl,rfl⟩,trivial⟩,⟨?_,pR _⟩,⟨rfl,rfl⟩,⟨?_,pR _⟩,trivial⟩
    ·show(kV xs.length us'++Ls t usB k)++([(Value.int .i64 (ah (sU b t k) ((1+k:Nat):Int)).1,Value.int .i64 (ah (sU b t k) ((1+k:Nat):Int)).2.1,Value.int .i64 (ah (sU b t k) ((1+k:Nat):Int)).2.2.1,usB.getD ((1+k)*5+3) undef,usB.getD ((1+k)*5+4) undef)]:List (El (hol 5)))=kV xs.length us'++Ls t usB (k+1);rw[QM,qF,hae];rfl
    ·show Di b t k j=sU b t (k+1);rw[hje,UM]
   ·show t.length-(k+1)<t.length-k;omega
  ·exfalso;have q2:decide (((k:Nat):Int)<((t.length-1:Nat):Int))=false:=q1;have q3:((t.length-1:Nat):Int)≤((k:Nat):Int):=by simpa using q2
   have hlt':k+1<t.length:=hlt;omega
 ·have h1:t.length≤s.1+1:=hge;exact⟨by omega,hs2 (by omega)⟩
 refine aI (fun q1=> ?_) (fun q1=> ?_)
 ·exfalso;have q2:decide (((s.1:Nat):Int)<((t.length-1:Nat):Int))=true:=q1;have q3:((s.1:Nat):Int)<((t.length-1:Nat):Int):=by simpa using q2
  have h1:t.length≤s.1+1:=hge;omega
 have h1:t.length≤s.1+1:=hge;have hse:s.1=t.length-1:=by omega
 have hdr:(sU b t s.1).drop 1=(t.drop 1).map (cZ b):=by rw[hse];exact Rz
 have hw:IntKind.i64.wrap (q.1+b)=q.1+b:=qO _ (by
  have:=htop.1;have h2:=htop.2.1;simp only[qA,qV,List.length_drop]at h2;omega)
 rw[←hdr]at hy htop;have hlk:=FX (xs++(sU b t s.1).drop 1) us' bk kv (y,0) (q.1+b,q.2) hy htop;rw[←hw]at hlk;refine Or.inr (eI _ (eI _ (aI hlk ?_)));refine aI (by kernel_rfl) ?_;refine fin [(10003,20000)] (aI rfl ?_);refine⟨trivial,⟨rfl,rfl,rfl,trivial⟩,⟨?_,hpre⟩,rfl,trivial⟩;show bL (xs++(sU b t s.1).drop 1) (y,0) (IntKind.i64.wrap (q.1+b),q.2)=mG bk xs x y;unfold mG;rw[hw,hT,hdr,hqe,hbe]
theorem Gt(x:Int):aO Tryz.prog 192 [.int .i64 x] (.int .i64 (mO x)):=by
 refine aO.intro (nt:=6) aH mixed (by kernel_rfl) Tryz.func192 rfl rfl rfl rfl rfl ?_;exact⟨rfl,rfl⟩
theorem AY(x:Int):aO Tryz.prog 199 [.int .i64 x] (.int .i64 (mO x)):=by
 refine aO.intro (nt:=8) aH mixed (by kernel_rfl) Tryz.func199 rfl rfl rfl rfl rfl ?_;exact⟨PY x,rfl⟩
theorem MC(b:Bool):aO Tryz.prog 165 [.bool b] (.int .i64 (bif b then 1 else 0)):=by
 refine aO.intro (nt:=4) aH mixed (by kernel_rfl) Tryz.func165 rfl rfl rfl rfl rfl ?_;refine aI (fun h=> ?_) (fun h=> ?_)
 ·subst h;exact⟨rfl,rfl⟩
 ·subst h;exact⟨rfl,rfl⟩
theorem VD(b:Bool):aO Tryz.prog 200 [.bool b] (.int .i64 (bif b then 1 else 0)):=by
 refine aO.intro (nt:=4) aH mixed (by kernel_rfl) Tryz.func200 rfl rfl rfl rfl rfl ?_;refine aI (fun h=> ?_) (fun h=> ?_)
 ·subst h;exact⟨rfl,rfl⟩
 ·subst h;exact⟨rfl,rfl⟩
theorem R6(o a b:Int):aO Tryz.prog 164 [.int .i64 o,.int .i64 a,.int .i64 b] (.int .i64 (wE o a b)):=by
 refine aO.intro (nt:=52) aH mixed (by kernel_rfl) Tryz.func164 rfl rfl rfl rfl rfl ?_;refine Or.inl (eI _ (aI (Gt a) ?_));refine Or.inl (eI _ (aI (Gt b) ?_));refine aI (fun h1=> ?_) (fun h1=> ?_)
 ·refine Or.inl (eI _ (aI (Gt _) ?_));refine⟨?_,rfl⟩;simp only[wE,h1,qG]
 refine aI (fun h2=> ?_) (fun h2=> ?_)
 ·refine Or.inl (eI _ (aI (Gt _) ?_));refine⟨?_,rfl⟩;simp only[wE,h1,h2,qG,qH]
 refine aI (fun h3=> ?_) (fun h3=> ?_)
 ·refine Or.inl (eI _ (aI (Gt _) ?_));refine⟨?_,rfl⟩;simp only[wE,h1,h2,h3,qG,qH]
 refine aI (fun h4=> ?_) (fun h4=> ?_)
 ·refine aI (fun h5=> ?_) (fun h5=> ?_)
  ·refine⟨?_,rfl⟩;simp only[wE,h1,h2,h3,h4,h5,qG,qH]
  ·refine aI (by simpa using h5) ?_;refine Or.inl (eI _ (aI (Gt _) ?_));refine⟨?_,rfl⟩;simp only[wE,h1,h2,h3,h4,h5,qG,qH]
 refine aI (fun h5=> ?_) (fun h5=> ?_)
 ·refine Or.inl (eI _ (aI (MC _) ?_));refine⟨?_,rfl⟩;simp only[wE,h1,h2,h3,h4,h5,qG,qH]
 refine aI (fun h6=> ?_) (fun h6=> ?_)
 ·refine Or.inl (eI _ (aI (MC _) ?_));refine⟨?_,rfl⟩;simp only[wE,h1,h2,h3,h4,h5,h6,qG,qH]
 ·refine⟨?_,rfl⟩;simp only[wE,h1,h2,h3,h4,h5,h6,qG,qH]
theorem Km(o a b:Int):aO Tryz.prog 179 [.int .i64 o,.int .i64 a,.int .i64 b] (.int .i64 (wE o a b)):=by
 refine aO.intro (nt:=52) aH mixed (by kernel_rfl) Tryz.func179 rfl rfl rfl rfl rfl ?_;refine Or.inl (eI _ (aI (AY a) ?_));refine Or.inl (eI _ (aI (AY b) ?_));refine aI (fun h1=> ?_) (fun h1=> ?_)
 ·refine Or.inl (eI _ (aI (AY _) ?_));refine⟨?_,rfl⟩;simp only[wE,h1,qG]
 refine aI (fun h2=> ?_) (fun h2=> ?_)
 ·refine Or.inl (eI _ (aI (AY _) ?_));refine⟨?_,rfl⟩;simp only[wE,h1,h2,qG,qH]
 refine aI (fun h3=> ?_) (fun h3=> ?_)
 ·refine Or.inl (eI _ (aI (AY _) ?_));refine⟨?_,rfl⟩;simp only[wE,h1,h2,h3,qG,qH]
 refine aI (fun h4=> ?_) (fun h4=> ?_)
 ·refine aI (fun h5=> ?_) (fun h5=> ?_)
  ·refine⟨?_,rfl⟩;simp only[wE,h1,h2,h3,h4,h5,qG,qH]
  ·refine aI (by simpa using h5) ?_;refine Or.inl (eI _ (aI (AY _) ?_));refine⟨?_,rfl⟩;simp only[wE,h1,h2,h3,h4,h5,qG,qH]
 refine aI (fun h5=> ?_) (fun h5=> ?_)
 ·refine Or.inl (eI _ (aI (VD _) ?_));refine⟨?_,rfl⟩;simp only[wE,h1,h2,h3,h4,h5,qG,qH]
 refine aI (fun h6=> ?_) (fun h6=> ?_)
 ·refine Or.inl (eI _ (aI (VD _) ?_));refine⟨?_,rfl⟩;simp only[wE,h1,h2,h3,h4,h5,h6,qG,qH]
 ·refine⟨?_,rfl⟩;simp only[wE,h1,h2,h3,h4,h5,h6,qG,qH]
theorem sO(xs:List aj)(us:List Value)(bk:List (El aR))(kv:List (Int×Bool)):aA Tryz.prog 105 [.ptr 10000 0] (tW xs us bk kv) (.int .i64 (IntKind.i64.wrap ((xs.length:Nat)-(kv.length:Nat)))) (tW xs us bk kv):=by
 refine aA.intro (nt:=15) aH mixed (by kernel_rfl) Tryz.func105 rfl rfl rfl rfl rfl rfl ?_;refine aI (by kernel_rfl) ?_;refine fin [] (aI ⟨rfl,rfl⟩ ?_);exact⟨trivial,⟨rfl,rfl,rfl,trivial⟩,⟨rfl,pR _⟩,rfl,trivial⟩
theorem xW(g:Nat)(xs:List aj)(us:List Value)(bk:List (El aR))(kv:List (Int×Bool))(p q:aF)(h:aW xs)(hp:ak xs p)(hq:ak xs q):aA Tryz.prog 109 [.ptr 10000 0,vP p,vP q] (tW xs us bk kv) (.tup []) (tW (dG xs p q) us bk kv):=Zf xs us bk kv p q hp (h p hp) hq
theorem RX:bH Tryz.prog 111=true:=by kernel_rfl
theorem YU(xs:List aj)(us:List Value)(bk:List (El aR))(kv:List (Int×Bool))(x y:Int)(hA:aW xs)(h0:ak xs (0,0))(hl:xs.length≤900000)(hx:0≤x∧x<(xs.length:Nat))(h1:ak xs (y,1))(h2:(ah xs y).1=7→ak xs (y,2))(h3:(ah xs y).1≠7→0<(ah xs y).2.2.2.1.length):
  aA Tryz.prog 111 [.ptr 10000 0,.int .i64 x,.int .i64 y] (tW xs us bk kv) (.tup []) (PU 10003 (bG xs x y) us bk kv):=by
 have hy:0≤y∧y<(xs.length:Nat):=⟨h1.1,h1.2.1⟩;refine aA.expose RX ?_;intro us' hpre hlen;refine aA.intro (nt:=64) aH mixed RX Tryz.func111 rfl rfl rfl rfl rfl rfl ?_;refine aI hx ?_;refine aI hy ?_;refine aI (sJ hlen hy.1 hy.2) ?_;refine aI (by kernel_rfl) ?_;refine aI (fun q1=> ?_) (fun q1=> ?_)
 ·have q1':(ah xs y).1=7:=by have q2:((ah xs y).1==7)=true:=q1;simpa using q2
  refine Or.inr (eI _ (eI _ (aI (WE xs us' bk kv 8 (ah xs y).2.1 (ah xs y).2.2.1 2 [(ah xs x).2.2.1] (by omega) (by omega) (by simp)) ?_)));have hA1:=hA.add h0 8 (ah xs y).2.1 (ah xs y).2.2.1 [(ah xs x).2.2.1] 2;refine Or.inr (eI _ (eI _ (aI (xW 0 (xs++[bB 8 (ah xs y).2.1 (ah xs y).2.2.1 [(ah xs x).2.2.1] 2]) us' bk kv (y,1) ((xs.length:Nat),0) hA1 h1.app (ak.new (by decide) (by decide))) ?_)));refine Or.inr (eI _ (eI _ (aI (xW 0 _ us' bk kv (y,2) ((xs.length:Nat),1) (hA1.move h1.app (ak.new (by decide) (by decide))) ((h2 q1').app.move) ((ak.new (by decide) (by decide)).move)) ?_)))
  refine fin [(10003,36)] (aI rfl ?_);refine⟨trivial,⟨rfl,rfl,rfl,trivial⟩,⟨?_,hpre⟩,rfl,trivial⟩;show _=bG xs x y;unfold bG;rw[show((ah xs y).1==7)=true from q1];rfl
 ·have q1':(ah xs y).1≠7:=by have q2:((ah xs y).1==7)=false:=q1;simpa using q2
  refine aI ⟨by decide,by have:=h3 q1';show(0:Int)<((ah xs y).2.2.2.1.length:Nat);omega⟩ ?_;refine eI 10001 (aI ⟨⟨hy.1,hy.2,rM hlen hy.1 hy.2 (by decide)⟩,by decide,by have:=h3 q1';show(0:Int)<((ah xs y).2.2.2.1.length:Nat);omega⟩ ?_);refine Or.inl (eI _ (aI (R6 _ _ _) ?_));refine Or.inr (eI _ (eI _ (aI (zX xs us' bk kv 6 0 (wE (ah xs y).2.2.1 (iZ (ah xs y).2.2.2.1 0) (ah xs x).2.2.1) 1 (by omega) (by omega)) ?_)));have hA1:=hA.add h0 6 0 (wE (ah xs y).2.2.1 (iZ (ah xs y).2.2.2.1 0) (ah xs x).2.2.1) [] 1;refine Or.inr (eI _ (eI _ (aI (xW 0 _ us' bk kv (y,1) ((xs.length:Nat),0) hA1 h1.app (ak.new (by decide) (by decide))) ?_)))
  refine aI (by kernel_rfl) ?_;refine fin [(10003,61)] (aI rfl ?_);refine⟨trivial,⟨rfl,rfl,rfl,trivial⟩,⟨?_,hpre⟩,rfl,trivial⟩;show _=bG xs x y;unfold bG;rw[show((ah xs y).1==7)=false from q1];rfl
theorem VT:bH Tryz.prog 108=true:=by kernel_rfl
theorem dupI(xs:List aj)(us:List Value)(bk:List (El aR))(kv:List (Int×Bool))(x y:Int)(hA:aW xs)(h0:ak xs (0,0))(hl:xs.length≤900000)(hx1:ak xs (x,1))(hx2:ak xs (x,2))(hy:0≤y∧y<(xs.length:Nat))(hp:(ah xs y).2.2.2.2.length≤1000)(hdt:(ah xs y).2.2.2.1.length≤1000000)(hp0:0<(ah xs y).2.2.2.2.length):
  aA Tryz.prog 108 [.ptr 10000 0,.int .i64 x,.int .i64 y] (tW xs us bk kv) (.tup []) (PU 10003 (bI xs x y) us bk kv):=by
 have hx:0≤x∧x<(xs.length:Nat):=⟨hx1.1,hx1.2.1⟩;refine aA.expose VT ?_;intro us' hpre hlen;refine aA.intro (nt:=116) aH mixed VT Tryz.func108 rfl rfl rfl rfl rfl rfl ?_;refine aI hy ?_;refine aI (sJ hlen hy.1 hy.2) ?_;have hnp:zG xs us' y 5 3 (us'.getD (y.toNat*5+3) undef):=⟨hy.1,hy.2,rM hlen hy.1 hy.2 (by decide)⟩;refine Or.inr (eI _ (eI _ (aI (VB xs us' bk kv (ah xs y).1 (ah xs y).2.1 (ah xs y).2.2.1 (ah xs y).2.2.2.2.length y (us'.getD (y.toNat*5+3) undef) (by omega) (by omega) hnp (by omega)) ?_)));have hag:ah (xs++[lZ xs y]) y=ah xs y:=dA (by omega)
 have hnp2:zG (xs++[lZ xs y]) us' y 5 3 (us'.getD (y.toNat*5+3) undef):=⟨hy.1,by rw[qA,qJ];omega,rM hlen hy.1 hy.2 (by decide)⟩;have hadd2:=VB (xs++[lZ xs y]) us' bk kv (ah xs y).1 (ah xs y).2.1 (ah xs y).2.2.1 (ah xs y).2.2.2.2.length y (us'.getD (y.toNat*5+3) undef) (by rw[qA,qJ];omega) (by omega) hnp2 (by rw[hag];omega);rw[hag,show(xs++[lZ xs y]).length=xs.length+1 by simp]at hadd2;refine Or.inr (eI _ (eI _ (aI hadd2 ?_)));have hn1:(ah xs y).2.2.2.2.length-1+1=(ah xs y).2.2.2.2.length:=by omega
 have h2A:=vU (y:=y) hA h0;have hcd:∀i:Nat,i≤(ah xs y).2.2.2.2.length-1→ak (dup2 xs y) (((xs.length:Nat):Int),(i:Nat))∧ak (dup2 xs y) (((xs.length+1:Nat):Int),(i:Nat)):=fun i hi=>⟨qh (by omega) (by omega),qj (by omega) (by omega)⟩
 refine lp Nat (fun k=>[(10,.int .i64 ((k+1:Nat):Int)),(9,.sl 20001)])
  (fun k=>[.bV 6 131 [.int .i64 (ah xs y).1,.int .i64 (ah xs y).2.1,.int .i64 (ah xs y).2.2.1,.nh y 3 (ah xs y).2.2.2.1.length (us'.getD (y.toNat*5+3) undef),.nh y 4 (ah xs y).2.2.2.2.length (us'.getD (y.toNat*5+4) undef)],
   .bV 10000 87 [.sl 20000,.rsl aR bk,.mp 10002],.row 20000 131 5 aD (dJ x ((xs.length:Nat)) ((xs.length+1:Nat)) (dup2 xs y) k) us',.map 10002 .bool kv,.row 20001 2 1 (.int .i64) (jc (xs.length+2) k) []])
  (fun k=>(ah xs y).2.2.2.2.length-1-k) (fun k=>k≤(ah xs y).2.2.2.2.length-1) 0 (Nat.zero_le _) ?_ ?_
 ·exact Nt [⟨9,30000,2,1,.int .i64⟩] [(20000,47),(20001,30000)] rfl (aI (aI (aI rfl rfl) (aI rfl trivial)) ⟨trivial,⟨⟨rfl,rfl⟩,⟨rfl,rfl⟩,⟨rfl,rfl⟩,rfl,rfl,trivial⟩,trivial,⟨rfl,rfl,rfl,trivial⟩,⟨rfl,pR _⟩,rfl,⟨rfl,nP⟩,trivial⟩)
 intro k hk;refine aI (fun q1=> ?_) (fun q1=> ?_)
 ·have q2:((k+1:Nat):Int)<((ah xs y).2.2.2.2.length:Nat):=by have q2:decide (((k+1:Nat):Int)<((ah xs y).2.2.2.2.length:Nat))=true:=q1;simpa using q2
  have hlt:k<(ah xs y).2.2.2.2.length-1:=by omega
  have hcl:(dJ x ((xs.length:Nat)) ((xs.length+1:Nat)) (dup2 xs y) k).length=xs.length+2+k:=by rw[iM,gF]
  refine aI ⟨hx.1,by rw[hcl];omega⟩ ?_;refine Or.inr (eI _ (eI _ (aI (zX (dJ x ((xs.length:Nat)) ((xs.length+1:Nat)) (dup2 xs y) k) us' bk kv 4 (ah (dJ x ((xs.length:Nat)) ((xs.length+1:Nat)) (dup2 xs y) k) x).2.1 0 3 (by rw[hcl];omega) (by omega)) ?_)));have hc:=hcd (k+1) (by omega);refine Or.inr (eI _ (eI _ (aI (FX _ us' bk kv (((dJ x ((xs.length:Nat)) ((xs.length+1:Nat)) (dup2 xs y) k).length:Nat),1) (((xs.length:Nat):Int),((k+1:Nat):Int)) (ak.new (by decide) (by decide)) (bW hc.1 k).app) ?_)));refine Or.inr (eI _ (eI _ (aI (FX (bL ((dJ x ((xs.length:Nat)) ((xs.length+1:Nat)) (dup2 xs y) k)++[bB 4 (ah (dJ x ((xs.length:Nat)) ((xs.length+1:Nat)) (dup2 xs y) k) x).2.1 0 [] 3]) (((dJ x ((xs.length:Nat)) ((xs.length+1:Nat)) (dup2 xs y) k).length:Nat),1) (((xs.length:Nat):Int),((k+1:Nat):Int))) us' bk kv (((dJ x ((xs.length:Nat)) ((xs.length+1:Nat)) (dup2 xs y) k).length:Nat),2) (((xs.length+1:Nat):Int),((k+1:Nat):Int)) (ak.link (ak.new (by decide) (by decide))) (bW hc.2 k).app.link) ?_)))
  refine aI (by show(jc (xs.length+2) k).length+1≤_;rw[lM];omega) ?_;refine aP (k+1) (by omega) ?_ ?_
  ·refine hd [(20000,65),(20001,87)] rfl (aI (aI (dB (by omega)) rfl) (aI rfl trivial)) ⟨trivial,⟨⟨rfl,rfl⟩,⟨rfl,rfl⟩,⟨rfl,rfl⟩,rfl,rfl,trivial⟩,trivial,⟨rfl,rfl,rfl,trivial⟩,⟨rfl,pR _⟩,rfl,⟨?_,nP⟩,trivial⟩;show jc (xs.length+2) k++[((dJ x ((xs.length:Nat)) ((xs.length+1:Nat)) (dup2 xs y) k).length:Int)]=jc (xs.length+2) (k+1);rw[CF,hcl]
  ·show(ah xs y).2.2.2.2.length-1-(k+1)<(ah xs y).2.2.2.2.length-1-k;omega
 ·have q2:((ah xs y).2.2.2.2.length:Nat)≤((k+1:Nat):Int):=by have q2:decide (((k+1:Nat):Int)<((ah xs y).2.2.2.2.length:Nat))=false:=q1;simpa using q2
  have hke:k=(ah xs y).2.2.2.2.length-1:=by omega
  subst hke;have h3A:aW (dup3 xs x y):=lK h2A (mE h0) _ hcd;have h3:∀{p},ak xs p→ak (dup3 xs x y) p:=fun h=>bW (mE h) _
  have hc0:ak (dup3 xs x y) (((xs.length:Nat):Int),0):=bW (qh (by decide) (by omega)) _;have hd0:ak (dup3 xs x y) (((xs.length+1:Nat):Int),0):=bW (qj (by decide) (by omega)) _;refine Or.inr (eI _ (eI _ (aI (xW 0 (dup3 xs x y) us' bk kv (x,1) ((xs.length:Nat),0) h3A (h3 hx1) hc0) ?_)));refine Or.inr (eI _ (eI _ (aI (xW 0 _ us' bk kv (x,2) ((xs.length+1:Nat),0) (h3A.move (h3 hx1) hc0) (h3 hx2).move hd0.move) ?_)));have h4A:aW (kE xs x y):=(h3A.move (h3 hx1) hc0).move (h3 hx2).move hd0.move
  have hyi:∀i:Nat,i<(ah xs y).2.2.2.2.length-1→ak (kE xs x y) (y,((i:Nat):Int)+1)∧ak (kE xs x y) (((xs.length+2+i:Nat):Int),0):=fun i hi=>by
   refine⟨(h3 ⟨hy.1,hy.2,by omega,?_⟩).move.move,?_⟩
   ·show((i:Nat):Int)+1<((ah xs y).2.2.2.2.length:Nat);omega
   ·have:=(ql (x:=x) (c:=((xs.length:Nat):Int)) (d:=((xs.length+1:Nat):Int)) (xs:=dup2 xs y) hi).move (p:=(x,1)) (q:=(((xs.length:Nat):Int),0));have:=this.move (p:=(x,2)) (q:=(((xs.length+1:Nat):Int),0));rw[gF]at this;exact this
  refine lp Nat (fun k=>[(102,.int .i64 (k:Nat)),(100,.sl 20001)])
   (fun k=>[.bV 10000 87 [.sl 20000,.rsl aR bk,.mp 10002],.row 20000 131 5 aD (dw y (xs.length+2) (kE xs x y) k) us',.map 10002 .bool kv,.row 20001 2 1 (.int .i64) (jc (xs.length+2) ((ah xs y).2.2.2.2.length-1)) []])
   (fun k=>(ah xs y).2.2.2.2.length-1-k) (fun k=>k≤(ah xs y).2.2.2.2.length-1) 0 (Nat.zero_le _) ?_ ?_
  ·exact hd [] rfl (aI (aI rfl rfl) (aI rfl trivial)) ⟨trivial,⟨rfl,rfl,rfl,trivial⟩,⟨rfl,pR _⟩,rfl,⟨rfl,nP⟩,trivial⟩
  intro k hk;refine aI (fun q1=> ?_) (fun q1=> ?_)
  ·have hlt:k<(ah xs y).2.2.2.2.length-1:=by
    have q2:decide (((k:Nat):Int)<((jc (xs.length+2) ((ah xs y).2.2.2.2.length-1)).length:Nat))=true:=q1;rw[lM]at q2;simpa using q2
   refine aI (by show(0:Int)≤(k:Nat)∧((k:Nat):Int)<((jc (xs.length+2) ((ah xs y).2.2.2.2.length-1)).length:Nat);rw[lM];omega) ?_;have hyk:=hyi k hlt;have hrp:=xW 0 (dw y (xs.length+2) (kE xs x y) k) us' bk kv (y,((k:Nat):Int)+1) (((xs.length+2+k:Nat):Int),0) (kF h4A k fun i hi=>hyi i (by omega)) (eZ hyk.1 k) (eZ hyk.2 k);have hw:IntKind.i64.wrap (((k:Nat):Int)+1)=((k:Nat):Int)+1:=(dB (by omega)).trans (by omega);have hf:elt (0:Int) (jc (xs.length+2) ((ah xs y).2.2.2.2.length-1)) (k:Nat)=((xs.length+2+k:Nat):Int):=FK hlt
   have hrp2:aA Tryz.prog 109 [.ptr 10000 0,vP (y,IntKind.i64.wrap (((k:Nat):Int)+1)),vP (elt (0:Int) (jc (xs.length+2) ((ah xs y).2.2.2.2.length-1)) (k:Nat),0)] (tW (dw y (xs.length+2) (kE xs x y) k) us' bk kv) (.tup []) (tW (dw y (xs.length+2) (kE xs x y) (k+1)) us' bk kv):=by
    rw[hw,hf];exact hrp
   refine Or.inr (eI _ (eI _ (aI hrp2 ?_)));refine aP (k+1) (by omega) ?_ ?_
   ·exact hd [] rfl (aI (aI (dB (by omega)) rfl) (aI rfl trivial)) ⟨trivial,⟨rfl,rfl,rfl,trivial⟩,⟨rfl,pR _⟩,rfl,⟨rfl,nP⟩,trivial⟩
   ·show(ah xs y).2.2.2.2.length-1-(k+1)<(ah xs y).2.2.2.2.length-1-k;omega
  ·have hge:(ah xs y).2.2.2.2.length-1≤k:=by
    have q2:decide (((k:Nat):Int)<((jc (xs.length+2) ((ah xs y).2.2.2.2.length-1)).length:Nat))=false:=q1;rw[lM]at q2;simpa using q2
   have hke:k=(ah xs y).2.2.2.2.length-1:=by omega
   refine fin [(10003,20000)] (aI rfl ?_);refine⟨trivial,⟨rfl,rfl,rfl,trivial⟩,⟨?_,hpre⟩,rfl,trivial⟩;show dw y (xs.length+2) (kE xs x y) k=bI xs x y;rw[hke];rfl
theorem Kh:bH Tryz.prog 112=true:=by kernel_rfl
theorem Ue(xs:List aj)(us:List Value)(bk:List (El aR))(kv:List (Int×Bool))(x y:Int)(hA:aW xs)(h0:ak xs (0,0))(hl:xs.length≤900000)(hx:0≤x∧x<(xs.length:Nat))(hy1:ak xs (y,1))(h6:(ah xs x).1=6→(ah xs y).2.2.2.1.length=2)(hc:(ah xs x).1≠6→0≤(ah xs x).2.2.1∧(ah xs x).2.2.1<((ah xs y).2.2.2.1.length:Nat))(hp:(ah xs x).2.2.2.2.length≤1000)(hp0:0<(ah xs x).2.2.2.2.length):
  aA Tryz.prog 112 [.ptr 10000 0,.int .i64 x,.int .i64 y] (tW xs us bk kv) (.tup []) (PU 10003 (jN xs x y) us bk kv):=by
 have hy:0≤y∧y<(xs.length:Nat):=⟨hy1.1,hy1.2.1⟩;refine aA.expose Kh ?_;intro us' hpre hlen;refine aA.intro (nt:=105) aH mixed Kh Tryz.func112 rfl rfl rfl rfl rfl rfl ?_;refine aI hx ?_;refine aI (sJ hlen hx.1 hx.2) ?_;refine aI hy ?_;refine aI (sJ hlen hy.1 hy.2) ?_;refine aI (by kernel_rfl) ?_;have hnp:zG xs us' y 5 3 (us'.getD (y.toNat*5+3) undef):=⟨hy.1,hy.2,rM hlen hy.1 hy.2 (by decide)⟩;refine aI (fun q1=> ?_) (fun q1=> ?_)
 ·have q2:(ah xs x).1=6:=by have q2:((ah xs x).1==6)=true:=q1;simpa using q2
  have hlen2:=h6 q2
  have hb:0≤(bif (ah xs x).2.2.1==0 then(1:Int)else 0)∧(bif (ah xs x).2.2.1==0 then(1:Int)else 0)<((ah xs y).2.2.2.1.length:Nat):=by
   rw[hlen2];cases ((ah xs x).2.2.1==0)<;>decide
  refine Or.inl (eI _ (aI (MC _) ?_));refine aI hb ?_;refine eI 10001 (aI ⟨hnp,hb⟩ ?_);refine Or.inr (eI _ (eI _ (aI (zX xs us' bk kv 12 (ah xs y).2.1 (iZ (ah xs y).2.2.2.1 (bif (ah xs x).2.2.1==0 then 1 else 0)) 1 (by omega) (by omega)) ?_)));have hA1:=hA.add h0 12 (ah xs y).2.1 (iZ (ah xs y).2.2.2.1 (bif (ah xs x).2.2.1==0 then 1 else 0)) [] 1;refine Or.inr (eI _ (eI _ (aI (xW 0 _ us' bk kv (y,1) ((xs.length:Nat),0) hA1 hy1.app (ak.new (by decide) (by decide))) ?_)));refine aI (by kernel_rfl) ?_;refine fin [(10003,46)] (aI rfl ?_);refine⟨trivial,⟨rfl,rfl,rfl,trivial⟩,⟨?_,hpre⟩,rfl,trivial⟩
  show _=jN xs x y;unfold jN;rw[show((ah xs x).1==6)=true from q1];rfl
 ·have q2:(ah xs x).1≠6:=by have q2:((ah xs x).1==6)=false:=q1;simpa using q2
  have hv:=hc q2;refine aI hv ?_;refine eI 10001 (aI ⟨hnp,hv⟩ ?_);refine Or.inr (eI _ (eI _ (aI (zX xs us' bk kv 12 (ah xs y).2.1 (iZ (ah xs y).2.2.2.1 (ah xs x).2.2.1) 1 (by omega) (by omega)) ?_)));refine aI (by kernel_rfl) ?_;have h1A:aW (bD xs y (ah xs x).2.2.1):=hA.add h0 _ _ _ _ _;have h1l:(bD xs y (ah xs x).2.2.1).length=xs.length+1:=pO _ _ _;have h1R:ak (bD xs y (ah xs x).2.2.1) (iN (bD xs y (ah xs x).2.2.1).length 0):=by rw[h1l];exact ak.new (by decide) (by decide)
  have h1:∀{p},ak xs p→ak (bD xs y (ah xs x).2.2.1) p:=fun h=>h.app
  refine lp Nat (fun k=>[(64,.int .i64 (k:Nat)),(9,.sl 20001)])
   (fun k=>[.bV 6 131 [.int .i64 (ah xs x).1,.int .i64 (ah xs x).2.1,.int .i64 (ah xs x).2.2.1,.nh x 3 (ah xs x).2.2.2.1.length (us'.getD (x.toNat*5+3) undef),.nh x 4 (ah xs x).2.2.2.2.length (us'.getD (x.toNat*5+4) undef)],.bV 7 131 [.int .i64 (ah xs y).1,.int .i64 (ah xs y).2.1,.int .i64 (ah xs y).2.2.1,.nh y 3 (ah xs y).2.2.2.1.length (us'.getD (y.toNat*5+3) undef),.nh y 4 (ah xs y).2.2.2.2.length (us'.getD (y.toNat*5+4) undef)],.bV 8 102 [.int .i64 (iN (xs.length+1) k).1,.int .i64 (iN (xs.length+1) k).2],.bV 10000 87 [.sl 20000,.rsl aR bk,.mp 10002],.row 20000 131 5 aD (pK (ah xs y).2.1 (xs.length+1) (bD xs y (ah xs x).2.2.1) k) us',.map 10002 .bool kv,.row 20001 2 1 (.int .i64) (jc (xs.length+1) k) []])
   (fun k=>((ah xs x).2.2.2.2.length-1)-k) (fun k=>k≤((ah xs x).2.2.2.2.length-1)) 0 (Nat.zero_le _) ?_ ?_
  ·exact Nt [⟨9,30000,2,1,.int .i64⟩] [(20000,58),(20001,30000)] rfl (aI (aI (aI rfl rfl) (aI rfl trivial)) ⟨trivial,⟨⟨rfl,rfl⟩,⟨rfl,rfl⟩,⟨rfl,rfl⟩,rfl,rfl,trivial⟩,trivial,⟨⟨rfl,rfl⟩,⟨rfl,rfl⟩,⟨rfl,rfl⟩,rfl,rfl,trivial⟩,trivial,⟨⟨rfl,rfl⟩,⟨rfl,rfl⟩,trivial⟩,trivial,⟨rfl,rfl,rfl,trivial⟩,⟨rfl,pR _⟩,rfl,⟨rfl,nP⟩,trivial⟩)
  intro k hk;have hcl:(pK (ah xs y).2.1 (xs.length+1) (bD xs y (ah xs x).2.2.1) k).length=xs.length+1+k:=by rw[wO,h1l]
  have hwn:IntKind.i64.wrap (((ah xs x).2.2.2.2.length:Nat)-1)=((((ah xs x).2.2.2.2.length-1):Nat):Int):=by rw[qO _ (by omega)];omega
  refine aI (fun q3=> ?_) (fun q3=> ?_)
  ·have hlt:k<((ah xs x).2.2.2.2.length-1):=by
    have q4:decide (((k:Nat):Int)<IntKind.i64.wrap (((ah xs x).2.2.2.2.length:Nat)-1))=true:=q3;rw[hwn]at q4;simpa using q4
   have hadd:=zX (pK (ah xs y).2.1 (xs.length+1) (bD xs y (ah xs x).2.2.1) k) us' bk kv 3 (ah xs y).2.1 0 3 (by rw[hcl];omega) (by omega);rw[hcl]at hadd;refine Or.inr (eI _ (eI _ (aI hadd ?_)));have hnew:=ak.new (xs:=(pK (ah xs y).2.1 (xs.length+1) (bD xs y (ah xs x).2.2.1) k)) (k:=3) (l:=(ah xs y).2.1) (v:=0) (d:=[]) (n:=3) (s:=0) (by decide) (by decide);rw[hcl]at hnew;have hR:=Fv (lv:=(ah xs y).2.1) h1R k;rw[h1l]at hR;refine Or.inr (eI _ (eI _ (aI (FX ((pK (ah xs y).2.1 (xs.length+1) (bD xs y (ah xs x).2.2.1) k)++[bB 3 (ah xs y).2.1 0 [] 3]) us' bk kv (((xs.length+1+k:Nat):Int),0) (iN (xs.length+1) k) hnew hR.app) ?_)))
   refine aI (by kernel_rfl) ?_;refine aI (by show(jc (xs.length+1) k).length+1≤_;rw[lM];omega) ?_;refine aP (k+1) (by omega) ?_ ?_
   ·refine hd [(20000,69),(20001,82)] rfl (aI (aI (dB (by omega)) rfl) (aI rfl trivial)) ⟨trivial,⟨⟨rfl,rfl⟩,⟨rfl,rfl⟩,⟨rfl,rfl⟩,rfl,rfl,trivial⟩,trivial,⟨⟨rfl,rfl⟩,⟨rfl,rfl⟩,⟨rfl,rfl⟩,rfl,rfl,trivial⟩,trivial,⟨⟨rfl,rfl⟩,⟨rfl,rfl⟩,trivial⟩,trivial,⟨rfl,rfl,rfl,trivial⟩,⟨rfl,pR _⟩,rfl,⟨?_,nP⟩,trivial⟩;show jc (xs.length+1) k++[((xs.length+1+k:Nat):Int)]=jc (xs.length+1) (k+1);rw[CF]
   ·show((ah xs x).2.2.2.2.length-1)-(k+1)<((ah xs x).2.2.2.2.length-1)-k;omega
  ·have hge:((ah xs x).2.2.2.2.length-1)≤k:=by
    have q4:decide (((k:Nat):Int)<IntKind.i64.wrap (((ah xs x).2.2.2.2.length:Nat)-1))=false:=q3;rw[hwn]at q4;simpa using q4
   have hke:k=((ah xs x).2.2.2.2.length-1):=by omega
   subst hke;have h2A:aW (pK (ah xs y).2.1 (xs.length+1) (bD xs y (ah xs x).2.2.1) ((ah xs x).2.2.2.2.length-1)):=by have:=GX (lv:=(ah xs y).2.1) h1A (h1 h0) h1R ((ah xs x).2.2.2.2.length-1);rwa[h1l]at this
   have h2:∀{p},ak xs p→ak (pK (ah xs y).2.1 (xs.length+1) (bD xs y (ah xs x).2.2.1) ((ah xs x).2.2.2.2.length-1)) p:=fun h=>Co (h1 h) _
   have hxi:∀i:Nat,i<((ah xs x).2.2.2.2.length-1)→ak (pK (ah xs y).2.1 (xs.length+1) (bD xs y (ah xs x).2.2.1) ((ah xs x).2.2.2.2.length-1)) (x,((i:Nat):Int)+1)∧ak (pK (ah xs y).2.1 (xs.length+1) (bD xs y (ah xs x).2.2.1) ((ah xs x).2.2.2.2.length-1)) (((xs.length+1+i:Nat):Int),1):=fun i hi=>by
    refine⟨h2 ⟨hx.1,hx.2,by omega,?_⟩,?_⟩
    ·show((i:Nat):Int)+1<((ah xs x).2.2.2.2.length:Nat);omega
    ·have:=yY (lv:=(ah xs y).2.1) (xs:=(bD xs y (ah xs x).2.2.1)) (s:=1) (by decide) (by decide) hi;rw[h1l]at this;exact this
   refine lp Nat (fun k=>[(86,.int .i64 (k:Nat)),(84,.sl 20001)])
    (fun k=>[.bV 8 102 [.int .i64 (iN (xs.length+1) ((ah xs x).2.2.2.2.length-1)).1,.int .i64 (iN (xs.length+1) ((ah xs x).2.2.2.2.length-1)).2],.bV 10000 87 [.sl 20000,.rsl aR bk,.mp 10002],.row 20000 131 5 aD (Cn x (xs.length+1) (pK (ah xs y).2.1 (xs.length+1) (bD xs y (ah xs x).2.2.1) ((ah xs x).2.2.2.2.length-1)) k) us',.map 10002 .bool kv,.row 20001 2 1 (.int .i64) (jc (xs.length+1) ((ah xs x).2.2.2.2.length-1)) []])
    (fun k=>((ah xs x).2.2.2.2.length-1)-k) (fun k=>k≤((ah xs x).2.2.2.2.length-1)) 0 (Nat.zero_le _) ?_ ?_
   ·exact hd [] rfl (aI (aI rfl rfl) (aI rfl trivial)) ⟨trivial,⟨⟨rfl,rfl⟩,⟨rfl,rfl⟩,trivial⟩,trivial,⟨rfl,rfl,rfl,trivial⟩,⟨rfl,pR _⟩,rfl,⟨rfl,nP⟩,trivial⟩
   intro k hk;refine aI (fun q3=> ?_) (fun q3=> ?_)
   ·have hlt:k<((ah xs x).2.2.2.2.length-1):=by
     have q2:decide (((k:Nat):Int)<((jc (xs.length+1) ((ah xs x).2.2.2.2.length-1)).length:Nat))=true:=q3;rw[lM]at q2;simpa using q2
    refine aI (by show(0:Int)≤(k:Nat)∧((k:Nat):Int)<((jc (xs.length+1) ((ah xs x).2.2.2.2.length-1)).length:Nat);rw[lM];omega) ?_;have hyk:=hxi k hlt;have hrp:=xW 0 (Cn x (xs.length+1) (pK (ah xs y).2.1 (xs.length+1) (bD xs y (ah xs x).2.2.1) ((ah xs x).2.2.2.2.length-1)) k) us' bk kv (x,((k:Nat):Int)+1) (((xs.length+1+k:Nat):Int),1) (BN h2A k fun i hi=>hxi i (by omega)) (mh hyk.1 k) (mh hyk.2 k);have hw:IntKind.i64.wrap (((k:Nat):Int)+1)=((k:Nat):Int)+1:=(dB (by omega)).trans (by omega)
    have hf:elt (0:Int) (jc (xs.length+1) ((ah xs x).2.2.2.2.length-1)) (k:Nat)=((xs.length+1+k:Nat):Int):=FK hlt
    have hrp2:aA Tryz.prog 109 [.ptr 10000 0,vP (x,IntKind.i64.wrap (((k:Nat):Int)+1)),vP (elt (0:Int) (jc (xs.length+1) ((ah xs x).2.2.2.2.length-1)) (k:Nat),1)] (tW (Cn x (xs.length+1) (pK (ah xs y).2.1 (xs.length+1) (bD xs y (ah xs x).2.2.1) ((ah xs x).2.2.2.2.length-1)) k) us' bk kv) (.tup []) (tW (Cn x (xs.length+1) (pK (ah xs y).2.1 (xs.length+1) (bD xs y (ah xs x).2.2.1) ((ah xs x).2.2.2.2.length-1)) (k+1)) us' bk kv):=by
     rw[hw,hf];exact hrp
    refine Or.inr (eI _ (eI _ (aI hrp2 ?_)));refine aP (k+1) (by omega) ?_ ?_
    ·exact hd [] rfl (aI (aI (dB (by omega)) rfl) (aI rfl trivial)) ⟨trivial,⟨⟨rfl,rfl⟩,⟨rfl,rfl⟩,trivial⟩,trivial,⟨rfl,rfl,rfl,trivial⟩,⟨rfl,pR _⟩,rfl,⟨rfl,nP⟩,trivial⟩
    ·show((ah xs x).2.2.2.2.length-1)-(k+1)<((ah xs x).2.2.2.2.length-1)-k;omega
   ·have hge:((ah xs x).2.2.2.2.length-1)≤k:=by
     have q2:decide (((k:Nat):Int)<((jc (xs.length+1) ((ah xs x).2.2.2.2.length-1)).length:Nat))=false:=q3;rw[lM]at q2;simpa using q2
    have hke:k=((ah xs x).2.2.2.2.length-1):=by omega
    have hR:=Fv (lv:=(ah xs y).2.1) h1R ((ah xs x).2.2.2.2.length-1);rw[h1l]at hR;refine Or.inr (eI _ (eI _ (aI (xW 0 (Cn x (xs.length+1) (pK (ah xs y).2.1 (xs.length+1) (bD xs y (ah xs x).2.2.1) ((ah xs x).2.2.2.2.length-1)) k) us' bk kv (y,1) (iN (xs.length+1) ((ah xs x).2.2.2.2.length-1)) (BN h2A k fun i hi=>hxi i (by omega)) (mh (h2 hy1) k) (mh hR k)) ?_)));refine fin [(10003,20000)] (aI rfl ?_);refine⟨trivial,⟨rfl,rfl,rfl,trivial⟩,⟨?_,hpre⟩,rfl,trivial⟩;show dG (Cn x (xs.length+1) (pK (ah xs y).2.1 (xs.length+1) (bD xs y (ah xs x).2.2.1) ((ah xs x).2.2.2.2.length-1)) k) (y,1) (iN (xs.length+1) ((ah xs x).2.2.2.2.length-1))=jN xs x y
    unfold jN;rw[show((ah xs x).1==6)=false from q1,hke];rfl
theorem GZ(xs:List aj)(us:List Value)(bk:List (List aj))(kv:List (Int×Bool))(p:Int×Int)(h1:0≤p.1∧p.1<(xs.length:Nat))(h2:0≤p.2∧p.2<(xs.length:Nat))(hb:Gu bk)(hs:∀i:Nat,bE (bO bk i))
  (hx:(bg (ah xs p.1) (ah xs p.2)).1=7→0≤(ah xs (bif (bg (ah xs p.1) (ah xs p.2)).2 then p.2 else p.1)).2.2.1∧0≤(ah xs (bif (bg (ah xs p.1) (ah xs p.2)).2 then p.2 else p.1)).2.1∧(ah xs (bif (bg (ah xs p.1) (ah xs p.2)).2 then p.2 else p.1)).2.1≤8):
  aA Tryz.prog 104 [.ptr 10000 0,vP p] (tW xs us bk kv) (.tup [.int .i64 (checkN bk xs p).1,.int .i64 (checkN bk xs p).2.1,.int .i64 (checkN bk xs p).2.2.1,.int .i64 (checkN bk xs p).2.2.2]) (tW xs us bk kv):=
 aA.oh aH [78,0] NR (fun m=>WQ xs bk m p h1 h2 hb hs hx) rfl
theorem VK(xs:List aj)(us:List Value)(bk:List (List aj))(kv:List (Int×Bool))(c x y:Int)(hx:0≤x∧x<(xs.length:Nat))(hy:0≤y∧y<(xs.length:Nat))(h7:c=7→0≤(ah xs x).2.2.1∧(ah xs x).2.2.1<(bk.length:Nat)):
  aA Tryz.prog 106 [.ptr 10000 0,.int .i64 c,.int .i64 x,.int .i64 y] (tW xs us bk kv) (.int .i64 (r9 bk xs c x y)) (tW xs us bk kv):=
 aA.oh aH [78,0,0,0] RU (fun m=>YI xs bk m c x y hx hy h7) rfl
theorem uQ:bH Tryz.prog 60=true:=by kernel_rfl
section
variable (xs:List aj)(us:List Value)(bk:List (List aj))(kv:List (Int×Bool))(p:Int×Int)(h1:0≤p.1∧p.1<(xs.length:Nat))(h2:0≤p.2∧p.2<(xs.length:Nat))(hb:Gu bk)(hs:∀i:Nat,bE (bO bk i))
  (hx:(bg (ah xs p.1) (ah xs p.2)).1=7→0≤(ah xs (bif (bg (ah xs p.1) (ah xs p.2)).2 then p.2 else p.1)).2.2.1∧0≤(ah xs (bif (bg (ah xs p.1) (ah xs p.2)).2 then p.2 else p.1)).2.1∧(ah xs (bif (bg (ah xs p.1) (ah xs p.2)).2 then p.2 else p.1)).2.1≤8)
include h1 h2 hb hs hx
theorem Rj(hc:(checkN bk xs p).2.2.2≠0):aA Tryz.prog 60 [.ptr 10000 0,vP p] (tW xs us bk kv) (.int .i64 (checkN bk xs p).2.2.2) (tW xs us bk kv):=by
 refine aA.intro (nt:=103) aH mixed uQ Tryz.func60 rfl rfl rfl rfl rfl rfl ?_;refine Or.inr (eI _ (eI _ (aI (GZ xs us bk kv p h1 h2 hb hs hx) ?_)));refine aI (fun q1=> ?_) (fun q1=> ?_)
 ·refine fin [] (aI ⟨rfl,rfl⟩ ?_);exact⟨trivial,⟨rfl,rfl,rfl,trivial⟩,⟨rfl,pR _⟩,rfl,trivial⟩
 ·have q2:((checkN bk xs p).2.2.2 !=0)=false:=q1;simp at q2;exact absurd q2 hc
theorem OW{c x y:Int}(hc:checkN bk xs p=(c,x,y,0))(hx0:0≤x∧x<(xs.length:Nat))(hy0:0≤y∧y<(xs.length:Nat))(h7:c=7→0≤(ah xs x).2.2.1∧(ah xs x).2.2.1<(bk.length:Nat))
  (hf:600<IntKind.i64.wrap (IntKind.i64.wrap ((xs.length:Nat)-(kv.length:Nat))+r9 bk xs c x y)):aA Tryz.prog 60 [.ptr 10000 0,vP p] (tW xs us bk kv) (.int .i64 4) (tW xs us bk kv):=by
 have hck:=GZ xs us bk kv p h1 h2 hb hs hx;rw[hc]at hck;refine aA.intro (nt:=103) aH mixed uQ Tryz.func60 rfl rfl rfl rfl rfl rfl ?_;refine Or.inr (eI _ (eI _ (aI hck ?_)));refine aI (fun q1=>by cases q1) (fun q1=> ?_);refine Or.inr (eI _ (eI _ (aI (sO xs us bk kv) ?_)));refine Or.inr (eI _ (eI _ (aI (VK xs us bk kv c x y hx0 hy0 h7) ?_)));refine aI (fun q2=> ?_) (fun q2=> ?_)
 ·refine fin [] (aI ⟨rfl,rfl⟩ ?_);exact⟨trivial,⟨rfl,rfl,rfl,trivial⟩,⟨rfl,pR _⟩,rfl,trivial⟩
 ·have q3:decide (600<IntKind.i64.wrap (IntKind.i64.wrap ((xs.length:Nat)-(kv.length:Nat))+r9 bk xs c x y))=false:=q2;simp only[decide_eq_false_iff_not]at q3;exact absurd hf q3
theorem UA{c x y:Int}(hc:checkN bk xs p=(c,x,y,0))(hc7:1≤c∧c≤7)(hp:IntPre xs c x y)(hA:aW xs)(h0:ak xs (0,0))(hl:xs.length≤800000)(h7:c=7→0≤(ah xs x).2.2.1∧(ah xs x).2.2.1<(bk.length:Nat))
  (hf:¬600<IntKind.i64.wrap (IntKind.i64.wrap ((xs.length:Nat)-(kv.length:Nat))+r9 bk xs c x y))
  (hE:c=7→∀us,aA Tryz.prog 113 [.ptr 10000 0,.int .i64 x,.int .i64 y] (tW xs us bk kv) (.tup []) (PU 10003 (mG bk xs x y) us bk kv)):
  aA Tryz.prog 60 [.ptr 10000 0,vP p] (tW xs us bk kv) (.int .i64 0) (PU 10003 (gH bk xs c x y) us bk (kW kv (fP c x y))):=by
 have hck:=GZ xs us bk kv p h1 h2 hb hs hx;rw[hc]at hck;obtain⟨hx0,hy0,p12,p3,px,py,dy,p5,p6⟩:=hp;refine aA.expose uQ ?_;intro us' hpre hlen;have hck:=GZ xs us' bk kv p h1 h2 hb hs hx;rw[hc]at hck;refine aA.intro (nt:=103) aH mixed uQ Tryz.func60 rfl rfl rfl rfl rfl rfl ?_;refine Or.inr (eI _ (eI _ (aI hck ?_)));refine aI (fun q1=>by cases q1) (fun q1=> ?_);refine Or.inr (eI _ (eI _ (aI (sO xs us' bk kv) ?_)));refine Or.inr (eI _ (eI _ (aI (VK xs us' bk kv c x y hx0 hy0 h7) ?_)));refine aI (fun q2=> ?_) (fun q2=> ?_)
 ·have q3:decide (600<IntKind.i64.wrap (IntKind.i64.wrap ((xs.length:Nat)-(kv.length:Nat))+r9 bk xs c x y))=true:=q2;simp only[qQ]at q3;exact absurd q3 hf
 refine aI (fun b1=> ?_) (fun b1=> ?_)
 ·have c1:c=1:=by have b:(c==1)=true:=b1;simpa using b
  have n7:(c==7)=false:=by rw[c1];rfl
  refine aI (fun _=> ?_) (fun h=>by rw[show(c==1)=true from b1]at h;cases h);obtain⟨j1,j2,j3,j4⟩:=p12 (.inl c1);refine Or.inr (eI _ (eI _ (aI (Nz xs us' bk kv (x,1) (y,1) j1 j3 (hA _ j1) (hA _ j3)) ?_)));have hA1:=hA.join j1 j3;refine Or.inr (eI _ (eI _ (aI (Nz (aU xs (x,1) (y,1)) us' bk kv (x,2) (y,2) j2.join j4.join (hA1 _ j2.join) (hA1 _ j4.join)) ?_)));refine Or.inr (eI _ (eI _ (aI (uT (aU (aU xs (x,1) (y,1)) (x,2) (y,2)) us' bk kv [x,y] (by simp)) ?_)));refine fin [(10003,10001)] (aI ⟨rfl,rfl⟩ ?_);refine⟨trivial,⟨rfl,rfl,rfl,trivial⟩,⟨?_,hpre⟩,?_,trivial⟩
  ·show(aU (aU xs (x,1) (y,1)) (x,2) (y,2))=gH bk xs c x y;simp only[gH,b1,qG,qH]
  ·show kW kv [x,y]=kW kv (fP c x y);simp only[fP,n7,qG,qH]
 refine aI (fun b2=> ?_) (fun b2=> ?_)
 ·have c2:c=2:=by have b:(c==2)=true:=b2;simpa using b
  have n7:(c==7)=false:=by rw[c2];rfl
  obtain⟨j1,j2,j3,j4⟩:=p12 (.inr c2);refine Or.inr (eI _ (eI _ (aI (Nz xs us' bk kv (x,1) (y,1) j1 j3 (hA _ j1) (hA _ j3)) ?_)));have hA1:=hA.join j1 j3;refine Or.inr (eI _ (eI _ (aI (Nz (aU xs (x,1) (y,1)) us' bk kv (x,2) (y,2) j2.join j4.join (hA1 _ j2.join) (hA1 _ j4.join)) ?_)));refine Or.inr (eI _ (eI _ (aI (uT (aU (aU xs (x,1) (y,1)) (x,2) (y,2)) us' bk kv [x,y] (by simp)) ?_)));refine fin [(10003,10001)] (aI ⟨rfl,rfl⟩ ?_);refine⟨trivial,⟨rfl,rfl,rfl,trivial⟩,⟨?_,hpre⟩,?_,trivial⟩
  ·show(aU (aU xs (x,1) (y,1)) (x,2) (y,2))=gH bk xs c x y;simp only[gH,b1,b2,qG,qH]
  ·show kW kv [x,y]=kW kv (fP c x y);simp only[fP,n7,qG,qH]
 refine aI (fun b3=> ?_) (fun b3=> ?_)
 ·have c3:c=3:=by have b:(c==3)=true:=b3;simpa using b
  have n7:(c==7)=false:=by rw[c3];rfl
  obtain⟨j1,j2⟩:=p3 c3;refine Or.inr (eI _ (eI _ (aI (dupI xs us' bk kv x y hA h0 (by omega) j1 j2 hy0 py.2 dy py.1) ?_)));refine Or.inr (eI _ (eI _ (aI (uT (bI xs x y) us' bk kv [x,y] (by simp)) ?_)));refine fin [(10003,51)] (aI ⟨rfl,rfl⟩ ?_);refine⟨trivial,⟨rfl,rfl,rfl,trivial⟩,⟨?_,hpre⟩,?_,trivial⟩
  ·show(bI xs x y)=gH bk xs c x y;simp only[gH,b1,b2,b3,qG,qH]
  ·show kW kv [x,y]=kW kv (fP c x y);simp only[fP,n7,qG,qH]
 refine aI (fun b4=> ?_) (fun b4=> ?_)
 ·have c4:c=4:=by have b:(c==4)=true:=b4;simpa using b
  have n7:(c==7)=false:=by rw[c4];rfl
  have hyk:∀i:Nat,i<((ah xs y).2.2.2.2.length-1)→ak xs (y,((i+1:Nat):Int)):=fun i hi=>⟨hy0.1,hy0.2,by omega,by show((i+1:Nat):Int)<((ah xs y).2.2.2.2.length:Nat);omega⟩
  refine lp Nat (fun k=>[(9,.int .i64 ((k+1:Nat):Int))]) (fun k=>[.bV 10000 87 [.sl 20000,.rsl aR bk,.mp 10002],.row 20000 131 5 aD (rU y xs k) us',.map 10002 .bool kv]) (fun k=>((ah xs y).2.2.2.2.length-1)-k) (fun k=>k≤((ah xs y).2.2.2.2.length-1)) 0 (Nat.zero_le _) ?_ ?_
  ·exact hd [(20000,10001)] rfl (aI (aI rfl rfl) trivial) ⟨trivial,⟨rfl,rfl,rfl,trivial⟩,⟨rfl,pR _⟩,rfl,trivial⟩
  intro k hk;refine aI (show 0≤y∧y<((rU y xs k).length:Nat) by rw[jO];omega) ?_;refine aI (sJ hlen hy0.1 hy0.2) ?_;have hpl:(ah (rU y xs k) y).2.2.2.2.length=(ah xs y).2.2.2.2.length:=FJ (by omega) k;refine aI (fun q4=> ?_) (fun q4=> ?_)
  ·have hlt:k<((ah xs y).2.2.2.2.length-1):=by
    have q5:decide (((k+1:Nat):Int)<((ah (rU y xs k) y).2.2.2.2.length:Nat))=true:=q4;rw[hpl]at q5;have q6:((k+1:Nat):Int)<((ah xs y).2.2.2.2.length:Nat):=by simpa using q5
    omega
   have hadd:=zX (rU y xs k) us' bk kv 5 0 0 1 (by rw[jO];omega) (by omega);rw[jO]at hadd;refine Or.inr (eI _ (eI _ (aI hadd ?_)));refine Or.inr (eI _ (eI _ (aI (xW 0 (rU y xs k++[bB 5 0 0 [] 1]) us' bk kv (y,((k+1:Nat):Int)) (((xs.length+k:Nat):Int),0) ((wT hA h0 k fun i hi=>hyk i (by omega)).add (nZ h0 k) _ _ _ _ _) (nZ (hyk k hlt) k).app (zh k)) ?_)));refine aP (k+1) (by omega) ?_ ?_
   ·exact hd [(20000,73)] rfl (aI (aI (dB (by omega)) rfl) trivial) ⟨trivial,⟨rfl,rfl,rfl,trivial⟩,⟨rfl,pR _⟩,rfl,trivial⟩
   ·show((ah xs y).2.2.2.2.length-1)-(k+1)<((ah xs y).2.2.2.2.length-1)-k;omega
  have hge:((ah xs y).2.2.2.2.length-1)≤k:=by
   have q5:decide (((k+1:Nat):Int)<((ah (rU y xs k) y).2.2.2.2.length:Nat))=false:=q4;rw[hpl]at q5;have q6:((ah xs y).2.2.2.2.length:Nat)≤((k+1:Nat):Int):=by simpa using q5
   omega
  have hke:k=((ah xs y).2.2.2.2.length-1):=by omega
  subst hke;refine Or.inr (eI _ (eI _ (aI (uT (gY xs y) us' bk kv [x,y] (by simp)) ?_)));refine fin [(10003,20000)] (aI ⟨rfl,rfl⟩ ?_);refine⟨trivial,⟨rfl,rfl,rfl,trivial⟩,⟨?_,hpre⟩,?_,trivial⟩
  ·show(gY xs y)=gH bk xs c x y;simp only[gH,b1,b2,b3,b4,qG,qH]
  ·show kW kv [x,y]=kW kv (fP c x y);simp only[fP,n7,qG,qH]
 refine aI (fun b5=> ?_) (fun b5=> ?_)
 ·have c5:c=5:=by have b:(c==5)=true:=b5;simpa using b
  have n7:(c==7)=false:=by rw[c5];rfl
  obtain⟨j1,j2,j3⟩:=p5 c5;refine Or.inr (eI _ (eI _ (aI (YU xs us' bk kv x y hA h0 (by omega) hx0 j1 j2 j3) ?_)));refine Or.inr (eI _ (eI _ (aI (uT (bG xs x y) us' bk kv [x,y] (by simp)) ?_)));refine fin [(10003,81)] (aI ⟨rfl,rfl⟩ ?_);refine⟨trivial,⟨rfl,rfl,rfl,trivial⟩,⟨?_,hpre⟩,?_,trivial⟩
  ·show(bG xs x y)=gH bk xs c x y;simp only[gH,b1,b2,b3,b4,b5,qG,qH]
  ·show kW kv [x,y]=kW kv (fP c x y);simp only[fP,n7,qG,qH]
 refine aI (fun b6=> ?_) (fun b6=> ?_)
 ·have c6:c=6:=by have b:(c==6)=true:=b6;simpa using b
  have n7:(c==7)=false:=by rw[c6];rfl
  obtain⟨j1,j2,j3⟩:=p6 c6;refine Or.inr (eI _ (eI _ (aI (Ue xs us' bk kv x y hA h0 (by omega) hx0 j1 j2 j3 px.2 px.1) ?_)));refine Or.inr (eI _ (eI _ (aI (uT (jN xs x y) us' bk kv [x,y] (by simp)) ?_)));refine fin [(10003,87)] (aI ⟨rfl,rfl⟩ ?_);refine⟨trivial,⟨rfl,rfl,rfl,trivial⟩,⟨?_,hpre⟩,?_,trivial⟩
  ·show(jN xs x y)=gH bk xs c x y;simp only[gH,b1,b2,b3,b4,b5,b6,qG,qH]
  ·show kW kv [x,y]=kW kv (fP c x y);simp only[fP,n7,qG,qH]
 refine aI (fun b7=> ?_) (fun b7=> ?_)
 ·have c7:c=7:=by have b:(c==7)=true:=b7;simpa using b
  refine Or.inr (eI _ (eI _ (aI (hE c7 us') ?_)));refine Or.inr (eI _ (eI _ (aI (uT (mG bk xs x y) us' bk kv [x] (by simp)) ?_)));refine fin [(10003,93)] (aI ⟨rfl,rfl⟩ ?_);refine⟨trivial,⟨rfl,rfl,rfl,trivial⟩,⟨?_,hpre⟩,?_,trivial⟩
  ·show(mG bk xs x y)=gH bk xs c x y;simp only[gH,b1,b2,b3,b4,b5,b6,b7,qG,qH]
  ·show kW kv [x]=kW kv (fP c x y);simp only[fP,b7,qG,qH]
 ·exfalso;simp at b1 b2 b3 b4 b5 b6 b7;omega
end
end Go.Proofs.YtjijpkphkicoeaaGreat
namespace Go.Proofs.YtjijpkphkicoeaaGreat
open Go Go.RowKit Go.Proofs Go.Tr
abbrev tR(xs:List aj)(us:List Value)(bk:List (List aj))(kv:List (Int×Bool))(ev:List bZ):List Tok:=[.bV 10000 112 [.ptr 10001 0,.sl 10004],.bV 10001 87 [.sl 10002,.rsl aR bk,.mp 10003],.row 10002 131 5 aD xs us,.map 10003 .bool kv,.row 10004 104 5 Ti ev []]
abbrev tRn(g1 g2:Nat)(xs:List aj)(us:List Value)(bk:List (List aj))(kv:List (Int×Bool))(ev:List bZ):List Tok:=[.bV 10000 112 [.ptr 10001 0,.sl g2],.bV 10001 87 [.sl g1,.rsl aR bk,.mp 10003],.row g1 131 5 aD xs us,.map 10003 .bool kv,.row g2 104 5 Ti ev []]
section
variable (xs:List aj)(us:List Value)(bk:List (List aj))(kv:List (Int×Bool))(ev:List bZ)
end
end Go.Proofs.YtjijpkphkicoeaaGreat
namespace Go.Proofs.YtjijpkphkicoeaaGreat
open Go Go.RowKit Go.Proofs Go.Tr
section
variable (xs:List aj)(us:List Value)(bk:List (List aj))(kv:List (Int×Bool))(ev:List bZ)
variable (p:Int×Int)(h1:0≤p.1∧p.1<(xs.length:Nat))(h2:0≤p.2∧p.2<(xs.length:Nat))
include h1 h2
end
end Go.Proofs.YtjijpkphkicoeaaGreat
namespace Go.Proofs.YtjijpkphkicoeaaGreat
open Go Go.RowKit Go.Proofs Go.Tr
abbrev vEv(e:bZ):SV:=.agg [.int .i64 e.1,.int .i64 e.2.1,.int .i64 e.2.2.1,.int .i64 e.2.2.2.1,.int .i64 e.2.2.2.2]
section
variable (xs:List aj)(us:List Value)(bk:List (List aj))(kv:List (Int×Bool))(ev:List bZ)(e:bZ)
variable (ha:Tc xs kv e.1=true)(hb:Tc xs kv e.2.1=true)(hp:0<(ah xs e.1).2.2.2.2.length)
include ha hb hp
variable (h:TS xs e.1 e.2.1=true)
include h
end
end Go.Proofs.YtjijpkphkicoeaaGreat
namespace Go.Proofs.YtjijpkphkicoeaaGreat
open Go Go.RowKit Go.Proofs Go.Tr
theorem NU:bH Tryz.prog 58=true:=by kernel_rfl
theorem Xr(xs:List aj)(bk:List (List aj))(h:bE xs):aA Tryz.prog 58 [.rsl aR bk,.agg [.rsl aD xs]] [] (.ptr 10000 0) [.bV 10000 87 [.sl 10001,.rsl aR bk,.mp 10002],.row 10001 131 5 aD xs [],.map 10002 .bool []]:=by
 refine aA.intro (nt:=11) aH mixed NU Tryz.func58 rfl rfl rfl rfl rfl rfl ?_;refine Or.inr (eI _ (eI _ (aI (y8 xs h) ?_)));refine fin [(10000,10),(10001,6),(10002,8)] (aI rfl ?_);exact⟨trivial,⟨rfl,rfl,rfl,trivial⟩,⟨rfl,nP⟩,rfl,trivial⟩
end Go.Proofs.YtjijpkphkicoeaaGreat
