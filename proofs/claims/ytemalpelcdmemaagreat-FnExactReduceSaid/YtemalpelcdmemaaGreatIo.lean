
/- The program's nets: wires. -/
import Derived.Test.YtemalpelcdmemaaGreatShort
import Derived.Test.YtemalpelcdmemaaGreatProg
import Derived.Test.YtemalpelcdmemaaGreatVti
import Derived.Test.YtemalpelcdmemaaGreatNz
import Derived.Test.YtemalpelcdmemaaGreatVV
import Derived.Test.YtemalpelcdmemaaGreatValid
set_option maxHeartbeats 4000000
set_option maxRecDepth 100000
set_option linter.unusedSimpArgs false
set_option linter.unusedVariables false
set_option linter.unusedSectionVars false
namespace Go.Proofs.YtemalpelcdmemaaGreat
open Go Go.RowKit Go.Proofs Go.Tr
abbrev tW(xs:List NAgent)(us:List Value)(bk:List (El uNet))(kv:List (Int×Bool)):List Tok:=[.cel 10000 109 [.sl 10001,.rsl uNet bk,.mp 10002],.row 10001 150 5 uAgent xs us,.map 10002 .bool kv]
theorem TL:callOk Tryz.prog 200=true:=by kernel_rfl
theorem Hw(xs:List NAgent)(us:List Value)(bk:List (El uNet))(kv:List (Int×Bool))(p q:aJ)(hp:ak xs p)(hq:ak xs q):FCall Tryz.prog 200 [.ptr 10000 0,vP p,vP q] (tW xs us bk kv) (.tup []) (tW (bQ xs p q) us bk kv):=by
 refine FCall.expose TL ?_;intro us' hpre hlen;have hq':ak (aN xs p q) q:=hq.set;obtain⟨p1,p2,p3,p4⟩:=hp;obtain⟨q1,q2,q3,q4⟩:=hq';have q2':q.1<(xs.length:Nat):=by rwa[dD]at q2
 refine FCall.intro (nt:=32) ti_ok mixed TL Tryz.func200 rfl rfl rfl rfl rfl rfl ?_;refine aI ⟨p1,p2⟩ ?_;refine aI (tJ hlen p1 p2) ?_;refine aI ⟨p3,p4⟩ ?_;refine eI 10001 (aI ⟨⟨p1,p2,sO hlen p1 p2 (by decide)⟩,p3,p4⟩ ?_);refine aI (by kernel_rfl) ?_;refine aI ⟨q1,q2⟩ ?_;refine aI (tJ hlen q1 q2') ?_;refine aI ⟨q3,q4⟩ ?_;refine eI 10001 (aI ⟨⟨q1,q2,sO hlen q1 q2' (by decide)⟩,q3,q4⟩ ?_);refine aI (by kernel_rfl) ?_;refine fin [] (aI rfl ?_);exact⟨trivial,⟨rfl,rfl,rfl,trivial⟩,⟨rfl,hpre⟩,rfl,trivial⟩
theorem Na:callOk Tryz.prog 140=true:=by kernel_rfl
theorem Xf(xs:List NAgent)(p:aJ)(hp:ak xs p):aR Tryz.prog 140 [.rp uNet xs,vP p] (vP (aF xs p)):=by
 obtain⟨p1,p2,p3,p4⟩:=hp;refine aR.intro (nt:=18) ti_ok mixed Na Tryz.func140 rfl rfl rfl rfl rfl ?_;refine aI ⟨p1,p2⟩ ?_;refine aI ⟨p3,p4⟩ ?_;refine aI (by kernel_rfl) ?_;exact rfl
theorem Ud(xs:List NAgent)(us:List Value)(bk:List (El uNet))(kv:List (Int×Bool))(p:aJ)(hp:ak xs p):FCall Tryz.prog 140 [.ptr 10000 0,vP p] (tW xs us bk kv) (vP (aF xs p)) (tW xs us bk kv):=
 FCall.of_q ti_ok [71,0] Na (Xf xs p hp) rfl
theorem Z0(xs:List NAgent)(us:List Value)(bk:List (El uNet))(kv:List (Int×Bool))(p q:aJ)(hp:ak xs p)(hr:ak xs (aF xs p))(hq:ak xs q):FCall Tryz.prog 159 [.ptr 10000 0,vP p,vP q] (tW xs us bk kv) (.tup []) (tW (dN xs p q) us bk kv):=by
 refine FCall.intro (nt:=16) ti_ok mixed (by kernel_rfl) Tryz.func159 rfl rfl rfl rfl rfl rfl ?_;refine Or.inr (eI _ (eI _ (aI (Ud xs us bk kv p hp) ?_)));refine Or.inr (eI _ (eI _ (aI (Hw xs us bk kv _ q hr hq) ?_)));refine aI (by kernel_rfl) ?_;refine fin [] (aI rfl ?_);exact⟨trivial,⟨rfl,rfl,rfl,trivial⟩,⟨rfl,pR _⟩,rfl,trivial⟩
theorem OJ(xs:List NAgent)(us:List Value)(bk:List (El uNet))(kv:List (Int×Bool))(p q:aJ)(hp:ak xs p)(hq:ak xs q)(hr:ak xs (aF xs p))(hs:ak xs (aF xs q)):FCall Tryz.prog 157 [.ptr 10000 0,vP p,vP q] (tW xs us bk kv) (.tup []) (tW (aT xs p q) us bk kv):=by
 refine FCall.intro (nt:=27) ti_ok mixed (by kernel_rfl) Tryz.func157 rfl rfl rfl rfl rfl rfl ?_;refine Or.inr (eI _ (eI _ (aI (Ud xs us bk kv p hp) ?_)));refine Or.inr (eI _ (eI _ (aI (Ud xs us bk kv q hq) ?_)));refine aI (by kernel_rfl) ?_;refine aI ⟨by kernel_rfl,rfl⟩ ?_;refine aI (fun h1=> ?_) (fun h1=> ?_)
 ·refine Or.inr (eI _ (eI _ (aI (Hw xs us bk kv (aF xs p) (aF xs q) hr hs) ?_)));refine aI (by kernel_rfl) ?_;refine fin [] (aI rfl ?_);refine⟨trivial,⟨rfl,rfl,rfl,trivial⟩,⟨?_,pR _⟩,rfl,trivial⟩;have h1:(!gY [(aF xs p).1,(aF xs p).2] [q.1,q.2])=true:=h1
  have h2:((aF xs p).1==q.1&&(aF xs p).2==q.2)=false:=by
   cases hc:((aF xs p).1==q.1&&(aF xs p).2==q.2)with
   |false=>rfl
   |true=>simp[gY,hc]at h1
  show bQ xs (aF xs p) (aF xs q)=_;unfold aT;rw[h2];rfl
 ·refine fin [] (aI rfl ?_);refine⟨trivial,⟨rfl,rfl,rfl,trivial⟩,⟨?_,pR _⟩,rfl,trivial⟩;have h1:(!gY [(aF xs p).1,(aF xs p).2] [q.1,q.2])=false:=h1;have h2:((aF xs p).1==q.1&&(aF xs p).2==q.2)=true:=by simpa[gY]using h1
  show xs=_;unfold aT;rw[h2];rfl
theorem xE:callOk Tryz.prog 201=true:=by kernel_rfl
theorem MJ(xs:List (El (.int .i64)))(hx:xs.length≤1048576):FCall Tryz.prog 201 [.rsl (.int .i64) xs] [] (.sl 10000) [.row 10000 2 1 (.int .i64) xs []]:=by
 refine FCall.ZA (fun he c=> ?_) ?_
 ·subst he;refine FCall.intro (nt:=8) ti_ok mixed xE Tryz.func201 rfl rfl rfl rfl rfl rfl ?_;refine aI (fun h1=> ?_) (fun h1=>by cases h1);refine XU [⟨2,30000,2,1,.int .i64⟩] [(10000,30000)] (aI rfl ?_);exact⟨⟨rfl,nP⟩,trivial⟩
 ·refine FCall.intro (nt:=8) ti_ok mixed xE Tryz.func201 rfl rfl rfl rfl rfl rfl ?_;refine aI (fun h1=>by cases h1) (fun h1=> ?_);refine aI (by show 0+xs.length≤_;omega) ?_;refine fin [(10000,7)] (aI rfl ?_);exact⟨⟨rfl,nP⟩,trivial⟩
theorem Il:callOk Tryz.prog 211=true:=by kernel_rfl
theorem Vo(xs:List (El (uPort)))(hx:xs.length≤1048576):FCall Tryz.prog 211 [.rsl (uPort) xs] [] (.sl 10000) [.row 10000 104 2 (uPort) xs []]:=by
 refine FCall.ZA (fun he c=> ?_) ?_
 ·subst he;refine FCall.intro (nt:=8) ti_ok mixed Il Tryz.func211 rfl rfl rfl rfl rfl rfl ?_;refine aI (fun h1=> ?_) (fun h1=>by cases h1);refine XU [⟨2,30000,104,2,uPort⟩] [(10000,30000)] (aI rfl ?_);exact⟨⟨rfl,nP⟩,trivial⟩
 ·refine FCall.intro (nt:=8) ti_ok mixed Il Tryz.func211 rfl rfl rfl rfl rfl rfl ?_;refine aI (fun h1=>by cases h1) (fun h1=> ?_);refine aI (by show 0+xs.length≤_;omega) ?_;refine fin [(10000,7)] (aI rfl ?_);exact⟨⟨rfl,nP⟩,trivial⟩
theorem vS(xs:List NAgent)(us:List Value)(bk:List (El uNet))(kv:List (Int×Bool))(ks:List Int)(hk:ks.length≤1000):FCall Tryz.prog 164 [.ptr 10000 0,.sl 10003] (tW xs us bk kv++[.row 10003 2 1 (.int .i64) ks []]) (.tup []) (tW xs us bk (mD kv ks)):=by
 refine FCall.intro (nt:=18) ti_ok mixed (by kernel_rfl) Tryz.func164 rfl rfl rfl rfl rfl rfl ?_;refine lp Nat (fun i=>[(8,.int .i64 (i:Nat))]) (fun i=>tW xs us bk (mD kv (ks.take i))++[.row 10003 2 1 (.int .i64) ks []]) (fun i=>ks.length-i) (fun i=>i≤ks.length) 0 (Nat.zero_le _) ?_ ?_
 ·exact hd [] rfl (aI (aI rfl rfl) trivial) ⟨trivial,⟨rfl,rfl,rfl,trivial⟩,⟨rfl,pR _⟩,rfl,⟨rfl,nP⟩,trivial⟩
 intro i hi;refine aI (fun h1=> ?_) (fun h1=> ?_)
 ·have hlt:i<ks.length:=by simpa using h1
  refine aI (by show(0:Int)≤(i:Nat)∧((i:Nat):Int)<(ks.length:Nat);omega) ?_;refine lp_next (i+1) hlt ?_ ?_
  ·refine hd [] rfl (aI (aI (wrapS (by omega)) rfl) trivial) ⟨trivial,⟨rfl,rfl,rfl,trivial⟩,⟨rfl,pR _⟩,QF kv hlt,⟨rfl,nP⟩,trivial⟩
  ·show ks.length-(i+1)<ks.length-i;omega
 ·have hge:ks.length≤i:=by simpa using h1
  refine fin [] (aI rfl ?_);refine⟨trivial,⟨rfl,rfl,rfl,trivial⟩,⟨rfl,pR _⟩,?_,trivial⟩;show mD kv (ks.take i)=mD kv ks;rw[List.take_of_length_le hge]
theorem qB(a b:Bool):(bif a then b else false)=(a&&b):=by cases a<;>rfl
theorem DI(a b:Bool):(bif a then true else b)=(a||b):=by cases a<;>rfl
theorem Ju(n lo hi:Int):aR Tryz.prog 81 [.int .i64 n,.int .i64 lo,.int .i64 hi] (.bool (inB n lo hi)):=by
 refine aR.intro (nt:=15) ti_ok mixed (by kernel_rfl) Tryz.func81 rfl rfl rfl rfl rfl ?_;exact qB _ _
theorem WY(n:Int):aR Tryz.prog 220 [.int .i64 n] (.bool (kW n)):=by
 refine aR.intro (nt:=9) ti_ok mixed (by kernel_rfl) Tryz.func220 rfl rfl rfl rfl rfl ?_;exact qB _ _
theorem Sv(n:Int):aR Tryz.prog 222 [.int .i64 n] (.bool (yJ n)):=by
 refine aR.intro (nt:=9) ti_ok mixed (by kernel_rfl) Tryz.func222 rfl rfl rfl rfl rfl ?_;exact qB _ _
theorem Dp(k:Int):aR Tryz.prog 221 [.int .i64 k] (.bool (bW k)):=by
 refine aR.intro (nt:=17) ti_ok mixed (by kernel_rfl) Tryz.func221 rfl rfl rfl rfl rfl ?_;refine Or.inl (eI _ (aI (WY k) ?_));refine Eq.trans (Eq.refl _) ?_;simp only[qB,bW]
theorem Dt(k:Int):aR Tryz.prog 219 [.int .i64 k] (.bool (bW k)):=by
 refine aR.intro (nt:=14) ti_ok mixed (by kernel_rfl) Tryz.func219 rfl rfl rfl rfl rfl ?_
 repeat' (refine aI (fun _=> ?_) (fun _=> ?_))
 all_goals (refine Eq.trans (Eq.refl _) ?_)
 all_goals (simp_all [bW,kW,inB])
 all_goals omega
theorem I4(k l:Int):aR Tryz.prog 196 [.int .i64 k,.int .i64 l] (.bool (dz k l)):=by
 refine aR.intro (nt:=19) ti_ok mixed (by kernel_rfl) Tryz.func196 rfl rfl rfl rfl rfl ?_;refine Or.inl (eI _ (aI (WY k) ?_));refine Or.inl (eI _ (aI (fun _=>Dp k) ?_));refine Or.inl (eI _ (aI (fun _=>Sv l) ?_));refine Eq.trans (Eq.refl _) ?_;simp only[qB,DI,dz]
theorem Zv(k:Int):aR Tryz.prog 239 [.int .i64 k] (.bool (kW k)):=by
 refine aR.intro (nt:=5) ti_ok mixed (by kernel_rfl) Tryz.func239 rfl rfl rfl rfl rfl ?_;refine Or.inl (eI _ (aI (Ju k 1 12) ?_));exact rfl
theorem Mt(k l:Int):aR Tryz.prog 227 [.int .i64 k,.int .i64 l] (.bool (dz k l)):=by
 refine aR.intro (nt:=15) ti_ok mixed (by kernel_rfl) Tryz.func227 rfl rfl rfl rfl rfl ?_;refine Or.inl (eI _ (aI (Dt k) ?_));refine aI (fun q=> ?_) (fun q=> ?_)
 ·refine Or.inl (eI _ (aI (Ju l 0 8) ?_));refine Eq.trans (Eq.refl _) ?_;have q:bW k=true:=q;have hk:kW k=true:=by cases h:kW k with|true=>rfl|false=>rw[oH h]at q;cases q
  simp only[dz,q,hk,Bool.true_and,yJ]
  by_cases h0:l=0
  ·subst h0;rfl
  ·simp[h0]
 ·refine Or.inl (eI _ (aI (Zv k) ?_));refine Eq.trans (Eq.refl _) ?_;have q:bW k=false:=q;simp only[qB,dz,q,Bool.false_and,Bool.or_false]
theorem Zk(k:Int):aR Tryz.prog 224 [.int .i64 k] (.bool (qb k)):=by
 refine aR.intro (nt:=21) ti_ok mixed (by kernel_rfl) Tryz.func224 rfl rfl rfl rfl rfl ?_;refine Eq.trans (Eq.refl _) ?_;simp only[DI,qb,Bool.or_assoc]
theorem Zl(k:Int):aR Tryz.prog 236 [.int .i64 k] (.bool (qb k)):=by
 refine aR.intro (nt:=10) ti_ok mixed (by kernel_rfl) Tryz.func236 rfl rfl rfl rfl rfl ?_
 repeat' (refine aI (fun _=> ?_) (fun _=> ?_))
 all_goals (refine Eq.trans (Eq.refl _) ?_)
 all_goals simp_all [qb]
theorem dplQ(t k l:Int):aR Tryz.prog 223 [.int .i64 t,.int .i64 k,.int .i64 l] (.bool (CZ t k l)):=by
 refine aR.intro (nt:=31) ti_ok mixed (by kernel_rfl) Tryz.func223 rfl rfl rfl rfl rfl ?_;refine Or.inl (eI _ (aI (Sv t) ?_));refine Or.inl (eI _ (aI (fun _=>I4 k l) ?_));refine aI (fun q=> ?_) (fun q=> ?_)
 ·refine Eq.trans (Eq.refl _) ?_;simp only[CZ];have q:(bif !yJ t then true else !dz k l)=true:=q;revert q;cases yJ t<;>cases dz k l<;>simp
 ·refine Or.inl (eI _ (aI (fun _=>Dp k) ?_));refine Eq.trans (Eq.refl _) ?_;have q:(bif !yJ t then true else !dz k l)=false:=q;have h:yJ t=true∧dz k l=true:=by revert q;cases yJ t<;>cases dz k l<;>simp
  simp only[qB,DI,CZ,h.1,h.2,Bool.true_and,Bool.or_assoc]
theorem dplS(t k l:Int):aR Tryz.prog 235 [.int .i64 t,.int .i64 k,.int .i64 l] (.bool (CZ t k l)):=by
 refine aR.intro (nt:=29) ti_ok mixed (by kernel_rfl) Tryz.func235 rfl rfl rfl rfl rfl ?_;refine Or.inl (eI _ (aI (Ju t 0 8) ?_));refine Or.inl (eI _ (aI (fun _=>Mt k l) ?_));refine aI (fun q=> ?_) (fun q=> ?_)
 ·refine Eq.trans (Eq.refl _) ?_;simp only[CZ];have q:(bif !yJ t then true else !dz k l)=true:=q;revert q;cases yJ t<;>cases dz k l<;>simp
 ·have q:(bif !yJ t then true else !dz k l)=false:=q;have h:yJ t=true∧dz k l=true:=by revert q;cases yJ t<;>cases dz k l<;>simp
  refine aI (fun q2=> ?_) (fun q2=> ?_)
  ·refine Eq.trans (Eq.refl _) ?_;have q2:(bif k==6 then true else k==12)=true:=q2;rw[DI]at q2;simp only[CZ,h.1,h.2,q2,Bool.true_and,Bool.true_or]
  ·refine Or.inl (eI _ (aI (Dt k) ?_));refine Eq.trans (Eq.refl _) ?_;have q2:(bif k==6 then true else k==12)=false:=q2;rw[DI]at q2;simp only[qB,CZ,h.1,h.2,q2,Bool.true_and,Bool.false_or]
theorem Xn(ka la kb lb:Int):aR Tryz.prog 197 [.int .i64 ka,.int .i64 la,.int .i64 kb,.int .i64 lb] (.int .i64 (rule ka la kb lb)):=by
 refine aR.intro (nt:=52) ti_ok mixed (by kernel_rfl) Tryz.func197 rfl rfl rfl rfl rfl ?_;refine aI (fun _=> ?_) (fun _=>aI (fun _=>aI (fun _=> ?_) (fun _=>Or.inl (eI _ (aI (dplQ la kb lb) (aI (fun _=> ?_) (fun _=> ?_)))))) (fun _=> ?_))
 repeat' (refine aI ?_ ?_<;>intro _)
 rotate_right 2
 refine Or.inl (eI _ (aI (Zk kb) (aI (fun _=> ?_) (fun _=> ?_))))
 all_goals (refine aI (Eq.trans (Eq.refl _) ?_) rfl)
 all_goals (simp_all [rule])
theorem Py(ka la kb lb:Int):aR Tryz.prog 213 [.int .i64 ka,.int .i64 la,.int .i64 kb,.int .i64 lb] (.int .i64 (rule ka la kb lb)):=by
 refine aR.intro (nt:=50) ti_ok mixed (by kernel_rfl) Tryz.func213 rfl rfl rfl rfl rfl ?_;refine aI (fun _=> ?_) (fun _=>aI (fun _=>aI (fun _=> ?_) (fun _=>Or.inl (eI _ (aI (dplS la kb lb) (aI (fun _=> ?_) (fun _=> ?_)))))) (fun _=> ?_))
 repeat' (refine aI ?_ ?_<;>intro _)
 rotate_right 2
 refine Or.inl (eI _ (aI (Zl kb) (aI (fun _=> ?_) (fun _=> ?_))))
 all_goals (refine aI (Eq.trans (Eq.refl _) ?_) rfl)
 all_goals (simp_all [rule])
theorem V5(a b c d:Int):aR Tryz.prog 153 [.int .i64 a,.int .i64 b,.int .i64 c,.int .i64 d] (.tup [.int .i64 (aV a b c d),.int .i64 (bn a b c d)]):=by
 have hp:∀{z:Bool},(bif (bif (bif a==1 then true else c==1)then true else !dz a b)then true else !dz c d)=z→mh a b c d= !z:=fun q=>by
  subst q;unfold mh;simp only[bne];generalize (a==1)=x;generalize (c==1)=y;cases x<;>cases y<;>cases dz a b<;>cases dz c d<;>rfl
 refine aR.intro (nt:=46) ti_ok mixed (by kernel_rfl) Tryz.func153 rfl rfl rfl rfl rfl ?_;refine Or.inl (eI _ (aI (fun _=>I4 a b) ?_));refine Or.inl (eI _ (aI (fun _=>I4 c d) ?_));refine aI (fun q=> ?_) (fun q=> ?_)
 ·refine Eq.trans (Eq.refl _) ?_;simp only[aV,bn,hp q];rfl
 refine Or.inl (eI _ (aI (Xn a b c d) ?_));refine aI (fun q2=> ?_) (fun q2=> ?_)
 ·refine Eq.trans (Eq.refl _) ?_;have q2:(rule a b c d !=0)=true:=q2;have q2:¬rule a b c d=0:=by simpa using q2
  simp only[aV,bn,hp q,q2,if_false];rfl
 have q2:(rule a b c d !=0)=false:=q2;have q2:rule a b c d=0:=by simpa using q2
 refine Or.inl (eI _ (aI (Xn c d a b) ?_));refine aI (fun q3=> ?_) (fun q3=> ?_)
 ·refine Eq.trans (Eq.refl _) ?_;have q3:(rule c d a b !=0)=true:=q3;have q3:¬rule c d a b=0:=by simpa using q3
  simp only[aV,bn,hp q,q2,q3,if_false];rfl
 ·refine Eq.trans (Eq.refl _) ?_;have q3:(rule c d a b !=0)=false:=q3;have q3:rule c d a b=0:=by simpa using q3
  simp only[aV,bn,hp q,q2,q3];rfl
theorem Ua(a b c d:Int):aR Tryz.prog 212 [.int .i64 a,.int .i64 b,.int .i64 c,.int .i64 d] (.bool (mh a b c d)):=by
 refine aR.intro (nt:=25) ti_ok mixed (by kernel_rfl) Tryz.func212 rfl rfl rfl rfl rfl ?_;refine Or.inl (eI _ (aI (Mt a b) ?_));refine Or.inl (eI _ (aI (fun _=>Mt c d) ?_));refine Eq.trans (Eq.refl _) ?_;simp only[qB,mh]
theorem Ng(a b c d:Int):aR Tryz.prog 181 [.int .i64 a,.int .i64 b,.int .i64 c,.int .i64 d] (.int .i64 (aV a b c d)):=by
 refine aR.intro (nt:=31) ti_ok mixed (by kernel_rfl) Tryz.func181 rfl rfl rfl rfl rfl ?_;refine Or.inl (eI _ (aI (Ua a b c d) ?_));refine aI (fun q=> ?_) (fun q=> ?_)
 ·refine aI (Eq.trans (Eq.refl _) ?_) rfl;have q:(!mh a b c d)=true:=q;simp[aV,show mh a b c d=false by simpa using q]
 have q:mh a b c d=true:=by have q:(!mh a b c d)=false:=q;simpa using q
 refine Or.inl (eI _ (aI (Py a b c d) ?_));refine aI (fun q2=>Or.inl (eI _ (aI (Py c d a b) ?_))) (fun q2=> ?_)
 all_goals (refine aI (fun q3=> ?_) (fun q3=> ?_))
 all_goals (refine aI (Eq.trans (Eq.refl _) ?_) rfl)
 all_goals (simp_all [aV])
theorem RN(a b c d:Int):aR Tryz.prog 204 [.int .i64 a,.int .i64 b,.int .i64 c,.int .i64 d] (.int .i64 (bn a b c d)):=by
 refine aR.intro (nt:=27) ti_ok mixed (by kernel_rfl) Tryz.func204 rfl rfl rfl rfl rfl ?_;refine Or.inl (eI _ (aI (Ua a b c d) ?_));refine aI (fun q=> ?_) (fun q=> ?_)
 ·refine aI (Eq.trans (Eq.refl _) ?_) rfl;have q:(!mh a b c d)=true:=q;simp[bn,show mh a b c d=false by simpa using q]
 have q:mh a b c d=true:=by have q:(!mh a b c d)=false:=q;simpa using q
 refine Or.inl (eI _ (aI (Py a b c d) ?_));refine aI (fun q2=> ?_) (fun q2=> ?_)
 ·refine aI (Eq.trans (Eq.refl _) ?_) rfl
  simp_all [bn]
 refine Or.inl (eI _ (aI (Py c d a b) ?_));refine aI (fun q3=> ?_) (fun q3=> ?_)
 all_goals (refine aI (Eq.trans (Eq.refl _) ?_) rfl)
 all_goals (simp_all [bn])
theorem yx:callOk Tryz.prog 102=true:=by kernel_rfl
theorem Ro(xs:List NAgent)(p:Int×Int)(h1:0≤p.1∧p.1<(xs.length:Nat))(h2:0≤p.2∧p.2<(xs.length:Nat)):aR Tryz.prog 102 [.rp uNet xs,vP p] (.tup [.int .i64 (bC (ah xs p.1) (ah xs p.2)).1,.bool (bC (ah xs p.1) (ah xs p.2)).2]):=by
 refine aR.intro (nt:=60) ti_ok mixed yx Tryz.func102 rfl rfl rfl rfl rfl ?_;refine aI h1 ?_;refine aI h2 ?_;refine aI (by kernel_rfl) ?_;refine Or.inl (eI _ (aI (V5 _ _ _ _) ?_));refine aI (fun q1=> ?_) (fun q1=> ?_)
 ·refine aI (fun q2=> ?_) (fun q2=> ?_)
  ·have e:=MH (x:=ah xs p.1) (y:=ah xs p.2) q1 q2;rw[e];exact rfl
  ·have e:=MG (x:=ah xs p.1) (y:=ah xs p.2) q1 q2;rw[e];exact rfl
 ·refine aI (fun q2=> ?_) (fun q2=> ?_)
  ·have e:=MF (x:=ah xs p.1) (y:=ah xs p.2) q1 q2;rw[e];exact rfl
  ·have e:=ME (x:=ah xs p.1) (y:=ah xs p.2) q1 q2;rw[e];exact rfl
theorem yt(c p:Int):aR Tryz.prog 199 [.int .i64 c,.int .i64 p] (.tup [.int .i64 (dS c p).1,.int .i64 (dS c p).2]):=by
 refine aR.intro (nt:=34) ti_ok mixed (by kernel_rfl) Tryz.func199 rfl rfl rfl rfl rfl ?_
 repeat' (refine aI (fun _=> ?_) (fun _=> ?_))
 all_goals (refine Eq.trans (Eq.refl _) ?_;(first|(simp only[dS,kD, *,cond_true,cond_false];done)|(simp_all [dS,kD];done)|(simp_all [dS,kD];grind)))
theorem DZ(x:NAgent)(h1:x.data.length≤1048576)(h2:x.ports.length≤1048576):FCall Tryz.prog 180 [.agg [.int .i64 x.1,.int .i64 x.2.1,.int .i64 x.2.2.1,.rsl (.int .i64) x.2.2.2.1,.rsl uPort x.2.2.2.2]] [] (.agg [.int .i64 x.1,.int .i64 x.2.1,.int .i64 x.2.2.1,.sl 10000,.sl 10001]) [.row 10000 2 1 (.int .i64) x.2.2.2.1 [],.row 10001 104 2 uPort x.2.2.2.2 []]:=by
 refine FCall.intro (nt:=12) ti_ok mixed (by kernel_rfl) Tryz.func180 rfl rfl rfl rfl rfl rfl ?_;refine Or.inr (eI _ (eI _ (aI (MJ _ h1) ?_)));refine Or.inr (eI _ (eI _ (aI (Vo _ h2) ?_)));refine aI (by kernel_rfl) ?_;refine fin [(10000,5),(10001,8)] (aI rfl ?_);exact⟨⟨rfl,nP⟩,⟨rfl,nP⟩,trivial⟩
theorem H9:callOk Tryz.prog 152=true:=by kernel_rfl
theorem Aa(xs:List NAgent)(h:NetSmall xs):FCall Tryz.prog 152 [.agg [.rsl uAgent xs]] [] (.agg [.sl 10000]) [.row 10000 150 5 uAgent xs []]:=by
 obtain⟨hl,ha⟩:=h;refine FCall.intro (nt:=27) ti_ok mixed H9 Tryz.func152 rfl rfl rfl rfl rfl rfl ?_;refine aI ⟨Int.le_refl 0,by omega,by omega⟩ ?_;refine lp Nat (fun i=>[(14,.int .i64 (i:Nat))]) (fun i=>[.cel 2 36 [.raw (.slice none 0 0)],.cel 3 36 [.sl 20000],.row 20000 150 5 uAgent (xs.take i) []]) (fun i=>xs.length-i) (fun i=>i≤xs.length) 0 (Nat.zero_le _) ?_ ?_
 ·exact hd [(20000,9)] rfl (aI (aI rfl rfl) trivial) ⟨trivial,⟨rfl,trivial⟩,trivial,⟨rfl,trivial⟩,⟨rfl,nP⟩,trivial⟩
 intro i hi;refine aI (fun q1=> ?_) (fun q1=> ?_)
 ·have hlt:i<xs.length:=by simpa using q1
  refine aI (by show(0:Int)≤(i:Nat)∧((i:Nat):Int)<(xs.length:Nat);omega) ?_;refine Or.inr (eI _ (eI _ (aI (DZ (ah xs i) (ha i).1 (ha i).2) ?_)));refine aI (by show(xs.take i).length+1≤_;rw[List.length_take];omega) ?_;refine aI (by kernel_rfl) ?_;refine lp_next (i+1) hlt ?_ ?_
  ·refine hd [(20000,23)] rfl (aI (aI (wrapS (by omega)) rfl) trivial) ⟨trivial,⟨rfl,trivial⟩,trivial,⟨rfl,trivial⟩,⟨?_,nP⟩,trivial⟩;show xs.take i++[ah xs i]=xs.take (i+1);rw[List.take_add_one,List.getElem?_eq_getElem hlt];unfold ah elt;rw[Int.toNat_natCast,List.getD_eq_getElem?_getD,List.getElem?_eq_getElem hlt];rfl
  ·show xs.length-(i+1)<xs.length-i;omega
 ·have hge:xs.length≤i:=by simpa using q1
  refine fin [(10000,20000)] (aI rfl ?_);refine⟨⟨?_,nP⟩,trivial⟩;show xs.take i=xs;rw[List.take_of_length_le hge]
abbrev QL(g:Nat)(xs:List NAgent)(us:List Value)(bk:List (El uNet))(kv:List (Int×Bool)):List Tok:=[.cel 10000 109 [.sl g,.rsl uNet bk,.mp 10002],.row g 150 5 uAgent xs us,.map 10002 .bool kv]
theorem SS:callOk Tryz.prog 160=true:=by kernel_rfl
theorem Rq:FCall Tryz.prog 201 [.raw (.slice none 0 0)] [] (.sl 10000) [.row 10000 2 1 (.int .i64) [] []]:=by
 refine FCall.intro (nt:=8) ti_ok mixed xE Tryz.func201 rfl rfl rfl rfl rfl rfl ?_;refine aI (fun h1=> ?_) (fun h1=>by cases h1);refine XU [⟨2,30000,2,1,.int .i64⟩] [(10000,30000)] (aI rfl ?_);exact⟨⟨rfl,nP⟩,trivial⟩
theorem Bf(xs:List NAgent)(us:List Value)(bk:List (El uNet))(kv:List (Int×Bool))(k l v:Int)(n:Nat)(hl:xs.length≤1000000)(hn:n≤1000000):FCall Tryz.prog 160 [.ptr 10000 0,.int .i64 k,.int .i64 l,.int .i64 v,.raw (.slice none 0 0),.int .i64 (n:Nat)] (tW xs us bk kv) (.int .i64 (xs.length:Nat)) (QL 10003 (xs++[bD k l v [] n]) us bk kv):=by
 refine FCall.intro (nt:=39) ti_ok mixed SS Tryz.func160 rfl rfl rfl rfl rfl rfl ?_;refine Or.inr (eI _ (eI _ (aI Rq ?_)));refine aI ⟨by omega,Int.le_refl _,by omega⟩ ?_;refine aI (by show xs.length+1≤_;omega) ?_;refine aI (by kernel_rfl) ?_;refine fin [(10003,28)] (aI ?_ ?_)
 ·show IntKind.i64.wrap (((xs++[bD k l v [] n]).length:Nat)-1)=((xs.length:Nat):Int)∧IntKind.i64=IntKind.i64;rw[List.length_append,List.length_singleton,IntWalk.i64_in _ (by omega)];exact⟨by omega,rfl⟩
 ·exact⟨trivial,⟨rfl,rfl,rfl,trivial⟩,⟨rfl,pR _⟩,rfl,trivial⟩
theorem Rt(ds:List Int)(hd:ds.length≤1048576):FCall Tryz.prog 201 [.sl 10000] [.row 10000 2 1 (.int .i64) ds []] (.sl 10001) [.row 10001 2 1 (.int .i64) ds [],.row 10000 2 1 (.int .i64) ds []]:=
 FCall.of_f (ts2:=[.row 10001 2 1 (.int .i64) ds []]) ti_ok [0] xE (MJ ds hd) rfl rfl rfl
theorem XC(xs:List NAgent)(us:List Value)(bk:List (El uNet))(kv:List (Int×Bool))(k l v:Int)(n:Nat)(ds:List Int)(hl:xs.length≤1000000)(hn:n≤1000000)(hd:ds.length≤1000000):FCall Tryz.prog 160 [.ptr 10000 0,.int .i64 k,.int .i64 l,.int .i64 v,.sl 10003,.int .i64 (n:Nat)] (tW xs us bk kv++[.row 10003 2 1 (.int .i64) ds []]) (.int .i64 (xs.length:Nat)) (QL 10004 (xs++[bD k l v ds n]) us bk kv):=by
 refine FCall.intro (nt:=39) ti_ok mixed SS Tryz.func160 rfl rfl rfl rfl rfl rfl ?_;refine Or.inr (eI _ (eI _ (aI (Rt ds (by omega)) ?_)));refine aI ⟨by omega,Int.le_refl _,by omega⟩ ?_;refine aI (by show xs.length+1≤_;omega) ?_;refine aI (by kernel_rfl) ?_;refine fin [(10004,28)] (aI ?_ ?_)
 ·show IntKind.i64.wrap (((xs++[bD k l v ds n]).length:Nat)-1)=((xs.length:Nat):Int)∧IntKind.i64=IntKind.i64;rw[List.length_append,List.length_singleton,IntWalk.i64_in _ (by omega)];exact⟨by omega,rfl⟩
 ·exact⟨trivial,⟨rfl,rfl,rfl,trivial⟩,⟨rfl,pR _⟩,rfl,trivial⟩
theorem Vn(xs:List NAgent)(us:List Value)(y:Int)(hdr:Value)(hy:AB xs us y 5 3 hdr)(hd:(ah xs y).data.length≤1048576):FCall Tryz.prog 201 [.nh y 3 (ah xs y).data.length hdr] [.row 10000 150 5 uAgent xs us] (.sl 10001) [.row 10001 2 1 (.int .i64) (ah xs y).data [],.row 10000 150 5 uAgent xs us]:=
 FCall.of_f (ts2:=[.row 10001 2 1 (.int .i64) (ah xs y).data []]) ti_ok [0] xE (eI 10000 (aI hy (MJ (ah xs y).data hd))) rfl rfl rfl
theorem WL(xs:List NAgent)(us:List Value)(bk:List (El uNet))(kv:List (Int×Bool))(k l v:Int)(n:Nat)(y:Int)(hdr:Value)(hl:xs.length≤1000000)(hn:n≤1000000)(hy:AB xs us y 5 3 hdr)(hd:(ah xs y).data.length≤1000000):FCall Tryz.prog 160 [.ptr 10000 0,.int .i64 k,.int .i64 l,.int .i64 v,.nh y 3 (ah xs y).data.length hdr,.int .i64 (n:Nat)] (tW xs us bk kv) (.int .i64 (xs.length:Nat)) (QL 10003 (xs++[bD k l v (ah xs y).data n]) us bk kv):=by
 refine FCall.intro (nt:=39) ti_ok mixed SS Tryz.func160 rfl rfl rfl rfl rfl rfl ?_;refine Or.inr (eI _ (eI _ (aI (Vn xs us y hdr hy (by omega)) ?_)));refine aI ⟨by omega,Int.le_refl _,by omega⟩ ?_;refine aI (by show xs.length+1≤_;omega) ?_;refine aI (by kernel_rfl) ?_;refine fin [(10003,28)] (aI ?_ ?_)
 ·show IntKind.i64.wrap (((xs++[bD k l v (ah xs y).data n]).length:Nat)-1)=((xs.length:Nat):Int)∧IntKind.i64=IntKind.i64;rw[List.length_append,List.length_singleton,IntWalk.i64_in _ (by omega)];exact⟨by omega,rfl⟩
 ·exact⟨trivial,⟨rfl,rfl,rfl,trivial⟩,⟨rfl,pR _⟩,rfl,trivial⟩
theorem Ij:callOk Tryz.prog 198=true:=by kernel_rfl
theorem FV(xs:List NAgent)(b:Int)(h:NetSmall xs)(hb:0≤b∧b≤8)(hlv:∀i:Nat,0≤(ah xs i).2.1∧(ah xs i).2.1≤8)(hok:fV b xs=true):FCall Tryz.prog 198 [.agg [.rsl uAgent xs],.int .i64 b] [] (.tup [.agg [.sl 10000],.bool true]) [.row 10000 150 5 uAgent (dh b xs) []]:=by
 refine FCall.intro (nt:=43) ti_ok mixed Ij Tryz.func198 rfl rfl rfl rfl rfl rfl ?_;refine Or.inr (eI _ (eI _ (aI (Aa xs h) ?_)));refine lp Nat (fun i=>[(14,.int .i64 (i:Nat)),(12,.sl 20000)]) (fun i=>[.cel 4 36 [.raw (.slice none 0 0)],.cel 6 36 [.sl 20000],.row 20000 150 5 uAgent (fT b xs i) []]) (fun i=>xs.length-i) (fun i=>i≤xs.length∧fV b (xs.take i)=true) 0 ⟨Nat.zero_le _,rfl⟩ ?_ ?_
 ·exact hd [(20000,10)] rfl (aI (aI rfl rfl) (aI rfl trivial)) ⟨trivial,⟨rfl,trivial⟩,trivial,⟨rfl,trivial⟩,⟨rfl,nP⟩,trivial⟩
 intro i ⟨hi,hi2⟩;refine aI (fun q1=> ?_) (fun q1=> ?_)
 ·have hlt:i<xs.length:=by simpa using q1
  refine aI ⟨by omega,by rw[oO];omega⟩ ?_;refine Or.inl (eI _ (aI (Dp _) ?_));have hat:ah (fT b xs i) (i:Nat)=ah xs (i:Nat):=FT hlt;refine aI (fun q2=> ?_) (fun q2=> ?_)
  ·have q3:(!(bW (ah (fT b xs i) (i:Nat)).1))=true:=q2;rw[hat]at q3;have hlev:bW (ah xs (i:Nat)).1=false:=by simpa using q3
   refine lp_next (i+1) ⟨hlt,?_⟩ ?_ ?_
   ·rw[nX hlt,hi2,hlev];rfl
   ·exact hd [] rfl (aI (aI (wrapS (by have:=h.1;omega)) rfl) (aI rfl trivial)) ⟨trivial,⟨rfl,trivial⟩,trivial,⟨rfl,trivial⟩,⟨(FU hlt hlev).symm,nP⟩,trivial⟩
   ·show xs.length-(i+1)<xs.length-i;omega
  ·have q3:(!(bW (ah (fT b xs i) (i:Nat)).1))=false:=q2;rw[hat]at q3;have hlev:bW (ah xs (i:Nat)).1=true:=by simpa using q3
   have hl2:=hlv i;have hw:IntKind.i64.wrap ((ah xs (i:Nat)).2.1+b)=(ah xs (i:Nat)).2.1+b:=IntWalk.i64_in _ (by omega)
   have hset:(fT b xs i).set i ((ah (fT b xs i) (i:Nat)).1,IntKind.i64.wrap ((ah (fT b xs i) (i:Nat)).2.1+b),(ah (fT b xs i) (i:Nat)).2.2)=fT b xs (i+1):=by
    rw[zy hlt,hat,hw];unfold jq;rw[show bW (ah xs (i:Nat)).kind=true from hlev];rfl
   have hlv2:(ah ((fT b xs i).set i ((ah (fT b xs i) (i:Nat)).1,IntKind.i64.wrap ((ah (fT b xs i) (i:Nat)).2.1+b),(ah (fT b xs i) (i:Nat)).2.2)) (i:Nat)).2.1=(ah xs (i:Nat)).2.1+b:=by
    rw[l8,if_pos ⟨by simp,by rw[oO];exact hlt⟩,hat,hw]
   refine aI (fun q4=> ?_) (fun q4=> ?_)
   all_goals have q5:=q4
   all_goals replace q5:=(congrArg (fun z:Int=>decide ((8:Int)<z)) hlv2).symm.trans q5
   ·exfalso;have h1:=J3 hok (i+1);rw[nX hlt,hlev]at h1;have q6:(8:Int)<(ah xs (i:Nat)).2.1+b:=by simpa using q5
    simp at h1;omega
   ·have hle:(ah xs (i:Nat)).2.1+b≤8:=by simpa using q5
    refine lp_next (i+1) ⟨hlt,?_⟩ ?_ ?_
    ·rw[nX hlt,hi2,hlev];simpa using hle
    ·exact hd [] rfl (aI (aI (wrapS (by have:=h.1;omega)) rfl) (aI rfl trivial)) ⟨trivial,⟨rfl,trivial⟩,trivial,⟨rfl,trivial⟩,⟨hset,nP⟩,trivial⟩
    ·show xs.length-(i+1)<xs.length-i;omega
 ·have hge:xs.length≤i:=by
   have q2:decide (((i:Nat):Int)<((fT b xs 0).length:Nat))=false:=q1;rw[oO]at q2;simpa using q2
  have hie:i=xs.length:=by omega
  refine fin [(10000,20000)] (aI rfl ?_);refine⟨⟨?_,nP⟩,trivial⟩;show fT b xs i=dh b xs;rw[hie];unfold fT dh;simp
theorem LZ(xs:List NAgent)(b:Int)(h:NetSmall xs)(hb:0≤b∧b≤8)(hlv:∀i:Nat,0≤(ah xs i).2.1∧(ah xs i).2.1≤8)(hok:fV b xs=false):FCall Tryz.prog 198 [.agg [.rsl uAgent xs],.int .i64 b] [] (.tup [.agg [.raw (.slice none 0 0)],.bool false]) []:=by
 refine FCall.intro (nt:=43) ti_ok mixed Ij Tryz.func198 rfl rfl rfl rfl rfl rfl ?_;refine Or.inr (eI _ (eI _ (aI (Aa xs h) ?_)));refine lp Nat (fun i=>[(14,.int .i64 (i:Nat)),(12,.sl 20000)]) (fun i=>[.cel 4 36 [.raw (.slice none 0 0)],.cel 6 36 [.sl 20000],.row 20000 150 5 uAgent (fT b xs i) []]) (fun i=>xs.length-i) (fun i=>i≤xs.length∧fV b (xs.take i)=true) 0 ⟨Nat.zero_le _,rfl⟩ ?_ ?_
 ·exact hd [(20000,10)] rfl (aI (aI rfl rfl) (aI rfl trivial)) ⟨trivial,⟨rfl,trivial⟩,trivial,⟨rfl,trivial⟩,⟨rfl,nP⟩,trivial⟩
 intro i ⟨hi,hi2⟩;refine aI (fun q1=> ?_) (fun q1=> ?_)
 ·have hlt:i<xs.length:=by simpa using q1
  refine aI ⟨by omega,by rw[oO];omega⟩ ?_;refine Or.inl (eI _ (aI (Dp _) ?_));have hat:ah (fT b xs i) (i:Nat)=ah xs (i:Nat):=FT hlt;refine aI (fun q2=> ?_) (fun q2=> ?_)
  ·have q3:(!(bW (ah (fT b xs i) (i:Nat)).1))=true:=q2;rw[hat]at q3;have hlev:bW (ah xs (i:Nat)).1=false:=by simpa using q3
   refine lp_next (i+1) ⟨hlt,?_⟩ ?_ ?_
   ·rw[nX hlt,hi2,hlev];rfl
   ·exact hd [] rfl (aI (aI (wrapS (by have:=h.1;omega)) rfl) (aI rfl trivial)) ⟨trivial,⟨rfl,trivial⟩,trivial,⟨rfl,trivial⟩,⟨(FU hlt hlev).symm,nP⟩,trivial⟩
   ·show xs.length-(i+1)<xs.length-i;omega
  ·have q3:(!(bW (ah (fT b xs i) (i:Nat)).1))=false:=q2;rw[hat]at q3;have hlev:bW (ah xs (i:Nat)).1=true:=by simpa using q3
   have hl2:=hlv i;have hw:IntKind.i64.wrap ((ah xs (i:Nat)).2.1+b)=(ah xs (i:Nat)).2.1+b:=IntWalk.i64_in _ (by omega)
   have hset:(fT b xs i).set i ((ah (fT b xs i) (i:Nat)).1,IntKind.i64.wrap ((ah (fT b xs i) (i:Nat)).2.1+b),(ah (fT b xs i) (i:Nat)).2.2)=fT b xs (i+1):=by
    rw[zy hlt,hat,hw];unfold jq;rw[show bW (ah xs (i:Nat)).kind=true from hlev];rfl
   have hlv2:(ah ((fT b xs i).set i ((ah (fT b xs i) (i:Nat)).1,IntKind.i64.wrap ((ah (fT b xs i) (i:Nat)).2.1+b),(ah (fT b xs i) (i:Nat)).2.2)) (i:Nat)).2.1=(ah xs (i:Nat)).2.1+b:=by
    rw[l8,if_pos ⟨by simp,by rw[oO];exact hlt⟩,hat,hw]
   refine aI (fun q4=> ?_) (fun q4=> ?_)
   all_goals have q5:=q4
   all_goals replace q5:=(congrArg (fun z:Int=>decide ((8:Int)<z)) hlv2).symm.trans q5
   ·refine fin [] (aI rfl trivial)
   ·have hle:(ah xs (i:Nat)).2.1+b≤8:=by simpa using q5
    refine lp_next (i+1) ⟨hlt,?_⟩ ?_ ?_
    ·rw[nX hlt,hi2,hlev];simpa using hle
    ·exact hd [] rfl (aI (aI (wrapS (by have:=h.1;omega)) rfl) (aI rfl trivial)) ⟨trivial,⟨rfl,trivial⟩,trivial,⟨rfl,trivial⟩,⟨hset,nP⟩,trivial⟩
    ·show xs.length-(i+1)<xs.length-i;omega
 ·have hge:xs.length≤i:=by
   have q2:decide (((i:Nat):Int)<((fT b xs 0).length:Nat))=false:=q1;rw[oO]at q2;simpa using q2
  have hie:i=xs.length:=by omega
  exfalso;rw[hie,List.take_length]at hi2;rw[hi2]at hok;cases hok
theorem OX:callOk Tryz.prog 154=true:=by kernel_rfl
theorem zW(xs:List NAgent)(p:Int×Int)(h1:0≤p.1∧p.1<(xs.length:Nat))(h2:0≤p.2∧p.2<(xs.length:Nat)):aR Tryz.prog 102 [.rp uNet xs,vP p] (.tup [.int .i64 (bC (ah xs p.1) (ah xs p.2)).1,.bool (bC (ah xs p.1) (ah xs p.2)).2]):=Ro xs p h1 h2
theorem XK(xs:List NAgent)(bk:List (List NAgent))(m:Value)(p:Int×Int)(h1:0≤p.1∧p.1<(xs.length:Nat))(h2:0≤p.2∧p.2<(xs.length:Nat))(hb:IG bk)(hs:∀i:Nat,NetSmall (bR bk i))
  (hx:(bC (ah xs p.1) (ah xs p.2)).1=7→0≤(ah xs (bif (bC (ah xs p.1) (ah xs p.2)).2 then p.2 else p.1)).2.2.1∧0≤(ah xs (bif (bC (ah xs p.1) (ah xs p.2)).2 then p.2 else p.1)).2.1∧(ah xs (bif (bC (ah xs p.1) (ah xs p.2)).2 then p.2 else p.1)).2.1≤8):
  aR Tryz.prog 154 [.rp Zad (xs,(bk,m)),vP p] (.tup [.int .i64 (checkN bk xs p).1,.int .i64 (checkN bk xs p).2.1,.int .i64 (checkN bk xs p).2.2.1,.int .i64 (checkN bk xs p).2.2.2]):=by
 refine aR.intro (nt:=67) ti_ok mixed OX Tryz.func154 rfl rfl rfl rfl rfl ?_;refine Or.inl (eI _ (aI (zW xs p h1 h2) ?_));refine aI (by kernel_rfl) ?_;refine aI (by kernel_rfl) ?_;generalize hc:bC (ah xs p.1) (ah xs p.2)=c at*
 have hbk:∀x:Int,0≤x→(∀j:Nat,0≤(ah (bR bk x) j).2.1∧(ah (bR bk x) j).2.1≤8)∧NetSmall (bR bk x):=fun x h=>by
  have e:bR bk x=bR bk (x.toNat:Nat):=by unfold bR;exact Om (by omega)
  rw[e];exact⟨hb _,hs _⟩
 refine aI (fun q1=> ?_) (fun q1=> ?_)
 ·have q1':c.2=true:=q1;rw[q1']at hx;have hx7:c.1=7→0≤(ah xs p.2).2.2.1∧0≤(ah xs p.2).2.1∧(ah xs p.2).2.1≤8:=hx;refine aI (fun q2=> ?_) (fun q2=> ?_)
  ·have q2':c.1=8:=by have q3:(c.1==8)=true:=q2;simpa using q3
   have e:checkN bk xs p=(0,0,0,11):=by simp[checkN,hc,q1',q2']
   rw[e];exact rfl
  have q2':c.1≠8:=by have q3:(c.1==8)=false:=q2;simpa using q3
  refine aI (fun q3=> ?_) (fun q3=> ?_)
  ·have q3':c.1=7:=by have q4:(c.1==7)=true:=q3;simpa using q4
   obtain⟨v0,l0,l1⟩:=hx7 q3';refine aI h2 ?_;refine aI (by kernel_rfl) ?_;refine aI (fun q4=> ?_) (fun q4=> ?_)
   ·have q4':(bk.length:Int)≤(ah xs p.2).2.2.1:=by have q5:decide ((bk.length:Int)≤(ah xs p.2).2.2.1)=true:=q4;simpa using q5
    have e:checkN bk xs p=(0,0,0,3):=by simp[checkN,hc,q1',q3',q4']
    rw[e];exact rfl
   have q4':(ah xs p.2).2.2.1<(bk.length:Nat):=by have q5:decide ((bk.length:Int)≤(ah xs p.2).2.2.1)=false:=q4;simpa using q5
   have q4n:¬((bk.length:Int)≤(ah xs p.2).2.2.1):=by omega
   refine aI ⟨v0,q4'⟩ ?_;obtain⟨k1,k2⟩:=hbk _ v0;cases hso:fV (ah xs p.2).2.1 (bR bk (ah xs p.2).2.2.1)with
   |true=>
    refine Or.inr (eI _ (eI _ (aI (FV (bR bk (ah xs p.2).2.2.1) (ah xs p.2).2.1 k2 ⟨l0,l1⟩ k1 hso) ?_)));refine aI (by kernel_rfl) ?_;refine aI (fun q5=>by cases q5) (fun q5=> ?_);have e:checkN bk xs p=(c.1,p.2,p.1,0):=by simp[checkN,hc,q1',q3',q4n,hso]
    rw[e];exact rfl
   |false=>
    refine Or.inr (eI _ (eI _ (aI (LZ (bR bk (ah xs p.2).2.2.1) (ah xs p.2).2.1 k2 ⟨l0,l1⟩ k1 hso) ?_)));refine aI (by kernel_rfl) ?_;refine aI (fun q5=> ?_) (fun q5=>by cases q5);have e:checkN bk xs p=(0,0,0,9):=by simp[checkN,hc,q1',q3',q4n,hso]
    rw[e];exact rfl
  ·have q3':c.1≠7:=by have q4:(c.1==7)=false:=q3;simpa using q4
   have e:checkN bk xs p=(c.1,p.2,p.1,0):=by have b2:(c.1==8)=false:=q2;have b3:(c.1==7)=false:=q3;simp only[checkN,hc,q1',b2,b3,cond_true,cond_false]
   rw[e];exact rfl
 ·have q1':c.2=false:=q1;rw[q1']at hx;have hx7:c.1=7→0≤(ah xs p.1).2.2.1∧0≤(ah xs p.1).2.1∧(ah xs p.1).2.1≤8:=hx;refine aI (fun q2=> ?_) (fun q2=> ?_)
  ·have q2':c.1=8:=by have q3:(c.1==8)=true:=q2;simpa using q3
   have e:checkN bk xs p=(0,0,0,11):=by simp[checkN,hc,q1',q2']
   rw[e];exact rfl
  have q2':c.1≠8:=by have q3:(c.1==8)=false:=q2;simpa using q3
  refine aI (fun q3=> ?_) (fun q3=> ?_)
  ·have q3':c.1=7:=by have q4:(c.1==7)=true:=q3;simpa using q4
   obtain⟨v0,l0,l1⟩:=hx7 q3';refine aI h1 ?_;refine aI (by kernel_rfl) ?_;refine aI (fun q4=> ?_) (fun q4=> ?_)
   ·have q4':(bk.length:Int)≤(ah xs p.1).2.2.1:=by have q5:decide ((bk.length:Int)≤(ah xs p.1).2.2.1)=true:=q4;simpa using q5
    have e:checkN bk xs p=(0,0,0,3):=by simp[checkN,hc,q1',q3',q4']
    rw[e];exact rfl
   have q4':(ah xs p.1).2.2.1<(bk.length:Nat):=by have q5:decide ((bk.length:Int)≤(ah xs p.1).2.2.1)=false:=q4;simpa using q5
   have q4n:¬((bk.length:Int)≤(ah xs p.1).2.2.1):=by omega
   refine aI ⟨v0,q4'⟩ ?_;obtain⟨k1,k2⟩:=hbk _ v0;cases hso:fV (ah xs p.1).2.1 (bR bk (ah xs p.1).2.2.1)with
   |true=>
    refine Or.inr (eI _ (eI _ (aI (FV (bR bk (ah xs p.1).2.2.1) (ah xs p.1).2.1 k2 ⟨l0,l1⟩ k1 hso) ?_)));refine aI (by kernel_rfl) ?_;refine aI (fun q5=>by cases q5) (fun q5=> ?_);have e:checkN bk xs p=(c.1,p.1,p.2,0):=by simp[checkN,hc,q1',q3',q4n,hso]
    rw[e];exact rfl
   |false=>
    refine Or.inr (eI _ (eI _ (aI (LZ (bR bk (ah xs p.1).2.2.1) (ah xs p.1).2.1 k2 ⟨l0,l1⟩ k1 hso) ?_)));refine aI (by kernel_rfl) ?_;refine aI (fun q5=> ?_) (fun q5=>by cases q5);have e:checkN bk xs p=(0,0,0,9):=by simp[checkN,hc,q1',q3',q4n,hso]
    rw[e];exact rfl
  ·have q3':c.1≠7:=by have q4:(c.1==7)=false:=q3;simpa using q4
   have e:checkN bk xs p=(c.1,p.1,p.2,0):=by have b2:(c.1==8)=false:=q2;have b3:(c.1==7)=false:=q3;simp only[checkN,hc,q1',b2,b3,cond_true,cond_false]
   rw[e];exact rfl
theorem TK:callOk Tryz.prog 156=true:=by kernel_rfl
theorem Zr(xs:List NAgent)(bk:List (List NAgent))(m:Value)(c x y:Int)(hx:0≤x∧x<(xs.length:Nat))(hy:0≤y∧y<(xs.length:Nat))(h7:c=7→0≤(ah xs x).2.2.1∧(ah xs x).2.2.1<(bk.length:Nat)):
  aR Tryz.prog 156 [.rp Zad (xs,(bk,m)),.int .i64 c,.int .i64 x,.int .i64 y] (.int .i64 (sW bk xs c x y)):=by
 refine aR.intro (nt:=76) ti_ok mixed TK Tryz.func156 rfl rfl rfl rfl rfl ?_;refine aI (fun q1=> ?_) (fun q1=> ?_)
 ·refine aI (fun _=> ?_) (fun h=>by rw[show(c==3)=true from q1]at h;cases h);refine aI hy ?_;refine Or.inl (eI _ (aI (yt _ _) ?_));refine⟨?_,rfl⟩;simp only[sW,q1,cond_true];rfl
 refine aI (fun q2=> ?_) (fun q2=> ?_)
 ·refine aI hy ?_;refine Or.inl (eI _ (aI (yt _ _) ?_));refine⟨?_,rfl⟩;simp only[sW,q1,q2,cond_true,cond_false];rfl
 refine aI (fun q3=> ?_) (fun q3=> ?_)
 ·refine aI hx ?_;refine aI (fun q4=> ?_) (fun q4=> ?_)
  ·refine aI hx ?_;refine Or.inl (eI _ (aI (yt _ _) ?_));refine⟨?_,rfl⟩;have q4':((ah xs x).1==9)=true:=q4;simp only[sW,q1,q2,q3,q4',cond_true,cond_false];rfl
  ·refine Or.inl (eI _ (aI (yt _ _) ?_));refine⟨?_,rfl⟩;have q4':((ah xs x).1==9)=false:=q4;simp only[sW,q1,q2,q3,q4',cond_true,cond_false]
 refine aI (fun q4=> ?_) (fun q4=> ?_)
 ·have q4':c=7:=by have q5:(c==7)=true:=q4;simpa using q5
  refine aI hx ?_;refine aI (h7 q4') ?_;refine aI (by kernel_rfl) ?_;refine Or.inl (eI _ (aI (yt _ _) ?_));refine⟨?_,rfl⟩;simp only[sW,q1,q2,q3,q4,cond_true,cond_false];rfl
 ·refine Or.inl (eI _ (aI (yt _ _) ?_));refine⟨?_,rfl⟩;simp only[sW,q1,q2,q3,q4,cond_true,cond_false]
theorem TH:callOk Tryz.prog 163=true:=by kernel_rfl
def Qb(g:Nat)(bk:List (List NAgent))(kv:List (Int×Bool))(q:aJ)(l:List Tok):List Tok:=.cel 10000 109 [.sl g,.rsl uNet bk,.mp 10002]:: .map 10002 .bool kv:: .cel 6 36 [.sl 38]:: .cel 9 104 [.int .i64 q.1,.int .i64 q.2]::l
def exL(g:Nat)(xs:List NAgent)(us:List Value)(hs:List (El (hol 5)))(ys:List NAgent)(usB:List Value):List Tok:=[.row g 150 5 (hol 5) (mq xs.length us++hs) us,.nest 20001 uAgent xs us,.row 38 150 5 uAgent ys usB]
def exT(b:Int)(t xs:List NAgent)(us:List Value)(bk:List (List NAgent))(kv:List (Int×Bool))(q:aJ)(s:Nat×List Value):List Tok:=match s.1 with
 |0=>Qb 20000 bk kv q [.row 20000 150 5 uAgent xs us,.row 38 150 5 uAgent t []]
 |k+1=>Qb 20000 bk kv q (exL 20000 xs us (MP t s.2 (k+1)) (tX b t (k+1)) s.2)
def exG(b:Int)(t xs:List NAgent)(us:List Value)(bk:List (List NAgent))(kv:List (Int×Bool))(q:aJ)(s:Nat×List Value)(K:List Tok→Prop):Prop:=
 (s.1+1<t.length→∀usB:List Value,(s.1=0→usB.length=t.length*5)→(s.1≠0→usB=s.2)→K (Qb 20000 bk kv q (exL 20000 xs us (MP t usB s.1) (tX b t s.1) usB)))∧
 (t.length≤s.1+1→(t.length=s.1+1∧s.2.length=t.length*5)∧K (Qb 20000 bk kv q [.row 20000 150 5 uAgent (xs++(tX b t s.1).drop 1) us]))
theorem Ag{β:Nat→Value}{cx:Cx}{g:Nat}{bk:List (List NAgent)}{kv:List (Int×Bool)}{q:aJ}{l:List Tok}{R:List fQ}:(((Qb g bk kv q l).map (Tok.res cx β))++R).Perm (l.map (Tok.res cx β)++((Qb g bk kv q []).map (Tok.res cx β)++R)):=by
 have:((Qb g bk kv q []).map (Tok.res cx β)++(l.map (Tok.res cx β)++R)).Perm (l.map (Tok.res cx β)++((Qb g bk kv q []).map (Tok.res cx β)++R)):=by
  rw[←List.append_assoc,←List.append_assoc];exact List.Perm.append_right _ List.perm_append_comm
 exact this
theorem Zp{b:Int}{t xs:List NAgent}{us:List Value}{bk:List (List NAgent)}{kv:List (Int×Bool)}{q:aJ}(hl:us.length=xs.length*5)(h2:2≤t.length)(s:Nat×List Value)(K:List Tok→Prop)(cx:Cx)(β:Nat→Value)(w:World)(R:List fQ)
  (h:exG b t xs us bk kv q s K) (hI:Inv cx.w0 cx.F0 w ((exT b t xs us bk kv q s).map (Tok.res cx β)++R)):∃rs',K rs'∧Inv cx.w0 cx.F0 w (rs'.map (Tok.res cx β)++R):=by
 obtain⟨k,usB⟩:=s
 match k with
 |0=>
  have h1:=h.1 (by show 0+1<t.length;omega);have hI1:=hI.perm Ag;have hI2:Inv cx.w0 cx.F0 w (Tok.res cx β (.row 20000 150 5 uAgent xs us)::(Tok.res cx β (.row 38 150 5 uAgent t [])::((Qb 20000 bk kv q []).map (Tok.res cx β)++R))):=hI1;have hI3:=Inv.X0 (n:=20001) hI2 hl;have hI4:=hI3.perm ((List.Perm.cons _ (List.Perm.swap _ _ _)).trans (List.Perm.swap _ _ _));obtain⟨F,⟨hus,bs,raw,e,hg,hpre⟩,k2,_⟩:=Inv.take1 (r:=Tok.res cx β (.row 38 150 5 uAgent t [])) hI4;have hI5:Inv cx.w0 cx.F0 w (Tok.res cx β (.row 38 150 5 uAgent t raw)::_):=k2 _ F (fun _ h=>h) ⟨hus,bs,raw,e,hg,pR _⟩
  have hI6:=hI5.perm ((List.Perm.swap _ _ _).trans (List.Perm.cons _ (List.Perm.swap _ _ _)));refine⟨_,h1 raw (fun _=>hg.row.1) (fun h=>absurd rfl h),Inv.perm (rs:=(exL 20000 xs us (MP t raw 0) (tX b t 0) raw).map (Tok.res cx β)++((Qb 20000 bk kv q []).map (Tok.res cx β)++R)) ?_ Ag.symm⟩;show Inv cx.w0 cx.F0 w (Tok.res cx β (.row 20000 150 5 (hol 5) (mq xs.length us++[]) us)::(Tok.res cx β (.nest 20001 uAgent xs us)::(Tok.res cx β (.row 38 150 5 uAgent t raw)::((Qb 20000 bk kv q []).map (Tok.res cx β)++R))));rw[List.append_nil];exact hI6
 |k+1=>
  by_cases hk:k+1+1<t.length
  ·exact⟨_,h.1 hk usB (fun e=>by cases e) (fun _=>rfl),hI⟩
  ·obtain⟨⟨hk2,h3⟩,h4⟩:=h.2 (by show t.length≤k+1+1;omega);have hm:(tX b t (k+1)).length=t.length:=tq _;have hk3:t.length=k+1+1:=hk2;have hI2:Inv cx.w0 cx.F0 w (Tok.res cx β (.row 20000 150 5 (hol 5) (mq xs.length us++MP t usB (k+1)) us)::(Tok.res cx β (.nest 20001 uAgent xs us)::(Tok.res cx β (.row 38 150 5 uAgent (tX b t (k+1)) usB)::((Qb 20000 bk kv q []).map (Tok.res cx β)++R)))):=hI.perm Ag;have hI3:=Inv.merge hI2 hl (by rw[hm];exact h3) (by omega) (by rw[hm,hk3];exact Vy _);exact⟨_,h4,Inv.perm hI3 (Ag (l:=[.row 20000 150 5 uAgent (xs++(tX b t (k+1)).drop 1) us])).symm⟩
theorem expI(t0:List NAgent)(xs:List NAgent)(us:List Value)(bk:List (List NAgent))(kv:List (Int×Bool))(x y:Int)(hx:0≤x∧x<(xs.length:Nat))(hv:0≤(ah xs x).2.2.1∧(ah xs x).2.2.1<(bk.length:Nat))(ht0:bR bk (ah xs x).2.2.1=t0)(hl:xs.length≤900000)(hs:NetSmall t0)(ht:2≤t0.length)(htl:t0.length≤1000)(hr:ak t0 (0,0))(hlv:0≤(ah xs x).2.1∧(ah xs x).2.1≤8)(hlt8:∀i:Nat,0≤(ah t0 i).2.1∧(ah t0 i).2.1≤8)
  (hok:fV (ah xs x).2.1 t0=true) (hpt:∀i j:Nat,tY (elt (dflt uPort) (ah (dh (ah xs x).2.1 t0) (i:Nat)).2.2.2.2 (j:Nat)).1) (hps:∀i:Nat,(ah (dh (ah xs x).2.1 t0) (i:Nat)).2.2.2.2.length≤1048576) (hr2:ak (dh (ah xs x).2.1 t0) (0,0))
  (hy:ak (xs++((nC bk xs x).drop 1).map (dA ((xs.length:Nat)-1))) (y,0)) (htop:ak (xs++((nC bk xs x).drop 1).map (dA ((xs.length:Nat)-1))) ((aF (nC bk xs x) (0,0)).1+((xs.length:Nat)-1),(aF (nC bk xs x) (0,0)).2)):
  FCall Tryz.prog 163 [.ptr 10000 0,.int .i64 x,.int .i64 y] (tW xs us bk kv) (.tup []) (QL 10003 (nS bk xs x y) us bk kv):=by
 refine FCall.jO 10001 TH ?_;refine aI (fun _ us' hpre hlen=> ?_) (fun h=>absurd rfl h);have hT:nC bk xs x=dh (ah xs x).2.1 t0:=by unfold nC;rw[ht0]
 have hq:FCall Tryz.prog 140 [.ptr 10000 0,vP (0,0)] [.cel 10000 36 [.sl 10001],.row 10001 150 5 uAgent (dh (ah xs x).2.1 t0) []] (vP (aF (dh (ah xs x).2.1 t0) (0,0))) [.cel 10000 36 [.sl 10001],.row 10001 150 5 uAgent (dh (ah xs x).2.1 t0) []]:=
  FCall.of_q ti_ok [71,0] Na (Xf _ _ hr2) rfl
 rw[hT]at hy htop;have hsh:=FV t0 (ah xs x).2.1 hs hlv hlt8 hok;generalize hte:dh (ah xs x).2.1 t0=t at*;have htn:t.length=t0.length:=by rw[←hte];unfold dh;simp
 generalize hqe:aF t (0,0)=q at*;refine FCall.intro (nt:=101) ti_ok mixed TH Tryz.func163 rfl rfl rfl rfl rfl rfl ?_;refine aI hx ?_;refine aI hv ?_;refine aI hx ?_;have hsh2:FCall Tryz.prog 198 [.agg [.rsl uAgent (bR bk (ah xs x).2.2.1)],.int .i64 (ah xs x).2.1] [] (.tup [.agg [.sl 10000],.bool true]) [.row 10000 150 5 uAgent t []]:=by rw[ht0];exact hsh
 refine Or.inr (eI _ (eI _ (aI hsh2 ?_)));refine aI (by kernel_rfl) ?_;refine Or.inr (eI _ (eI _ (aI hq ?_)));refine aI (show(0:Int)≤1∧(1:Int)<(t.length:Nat) by omega) ?_;have hwb:IntKind.i64.wrap ((xs.length:Nat)-1)=((xs.length:Nat)-1:Int):=IntWalk.i64_in _ (by omega);generalize hbe:((xs.length:Nat)-1:Int)=b at*;refine lpG (Nat×List Value) (fun s=>[(54,.int .i64 (s.1:Nat)),(8,.int .i64 b)]) (exT b t xs us' bk kv q) (fun s=>t.length-s.1) (fun s=>s.1+1≤t.length∧(s.1≠0→s.2.length=t.length*5)) (0,[]) (exG b t xs us' bk kv q) (Zp hlen (by omega)) ⟨by show 0+1≤_;omega,fun h=>absurd rfl h⟩ ?_ ?_
 ·exact hd [(20000,10001)] rfl (aI (aI rfl rfl) (aI (aI hwb rfl) trivial)) ⟨trivial,⟨rfl,rfl,rfl,trivial⟩,rfl,trivial,⟨rfl,trivial⟩,trivial,⟨⟨rfl,rfl⟩,⟨rfl,rfl⟩,trivial⟩,⟨rfl,pR _⟩,⟨rfl,nP⟩,trivial⟩
 intro s ⟨hs1,hs2⟩;refine aI (fun hlt usB hB0 hB1=> ?_) (fun hge=>aI ?_ ?_)
 ·have hB:usB.length=t.length*5:=by
   by_cases h:s.1=0
   ·exact hB0 h
   ·rw[hB1 h];exact hs2 h
  obtain⟨k,usS⟩:=s;refine aI (fun q1=> ?_) (fun q1=> ?_)
  ·have hlt':k+1<t.length:=hlt;have hi0:(0:Int)≤((1+k:Nat):Int):=by omega
   have hi1:((1+k:Nat):Int)<((tX b t k).length:Nat):=by rw[tq];omega
   have hBm:usB.length=(tX b t k).length*5:=by rw[tq];exact hB
   refine aI (show(0:Int)≤(k:Nat)∧((k:Nat):Int)<((t.length-1:Nat):Int) by omega) ?_;refine aI (tJ hBm hi0 hi1) ?_;refine lp Nat (fun j=>[(61,.int .i64 (j:Nat))]) (fun j=>.cel 11 150 [.int .i64 (ah (tX b t k) ((1+k:Nat):Int)).1,.int .i64 (ah (tX b t k) ((1+k:Nat):Int)).2.1,.int .i64 (ah (tX b t k) ((1+k:Nat):Int)).2.2.1,.nh ((1+k:Nat):Int) 3 (ah (tX b t k) ((1+k:Nat):Int)).2.2.2.1.length (usB.getD ((1+k)*5+3) undef),.nh ((1+k:Nat):Int) 4 (ah (tX b t k) ((1+k:Nat):Int)).2.2.2.2.length (usB.getD ((1+k)*5+4) undef)]::Qb 21000 bk kv q (exL 21000 xs us' (MP t usB k) (EU b t k j) usB)) (fun j=>(ah t ((1+k:Nat):Int)).2.2.2.2.length-j) (fun j=>j≤(ah t ((1+k:Nat):Int)).2.2.2.2.length) 0 (Nat.zero_le _) ?_ ?_
   ·exact hd [(21000,20000)] rfl (aI (aI rfl rfl) trivial) ⟨trivial,⟨⟨rfl,rfl⟩,⟨rfl,rfl⟩,⟨rfl,rfl⟩,rfl,rfl,trivial⟩,trivial,⟨rfl,rfl,rfl,trivial⟩,rfl,trivial,⟨rfl,trivial⟩,trivial,⟨⟨rfl,rfl⟩,⟨rfl,rfl⟩,trivial⟩,⟨rfl,pR _⟩,⟨rfl,rfl⟩,⟨(SE k).symm,pR _⟩,trivial⟩
   intro j hj;have hae:ah (tX b t k) ((1+k:Nat):Int)=ah t ((1+k:Nat):Int):=X9 (by omega);have hi2:((1+k:Nat):Int)<((EU b t k j).length:Nat):=by rw[OM];omega
   have hBm2:usB.length=(EU b t k j).length*5:=by rw[OM];exact hB
   refine aI (fun q3=> ?_) (fun q3=> ?_)
   ·have hlt2:j<(ah t ((1+k:Nat):Int)).2.2.2.2.length:=by
     have q4:decide (((j:Nat):Int)<((ah (tX b t k) ((1+k:Nat):Int)).2.2.2.2.length:Nat))=true:=q3;rw[hae]at q4;simpa using q4
    have hbnd:(0:Int)≤(j:Nat)∧((j:Nat):Int)<((ah (tX b t k) ((1+k:Nat):Int)).2.2.2.2.length:Nat):=by rw[hae];omega
    have hnp:AB (EU b t k j) usB ((1+k:Nat):Int) 5 4 (usB.getD ((1+k)*5+4) undef):=⟨hi0,hi2,sO hBm2 hi0 hi2 (by decide)⟩;have hpv:tY (elt (dflt uPort) (ah t ((1+k:Nat):Int)).2.2.2.2 (j:Nat)).1:=hpt (1+k) j;unfold tY at hpv;have hpl:=hps (1+k)
    have hw:IntKind.i64.wrap ((elt (dflt uPort) (ah (EU b t k j) ((1+k:Nat):Int)).2.2.2.2 (j:Nat)).1+b)=(elt (dflt uPort) (ah t ((1+k:Nat):Int)).2.2.2.2 (j:Nat)).1+b:=by
     rw[X8 (by omega) hlt2];exact IntWalk.i64_in _ (by omega)
    refine aI hbnd ?_;refine eI 38 (aI ⟨hnp,hbnd⟩ ?_);refine aI hbnd ?_;refine eI 38 (aI ⟨hnp,hbnd⟩ ?_);refine lp_next (j+1) hlt2 ?_ ?_
    ·refine hd [] rfl (aI (aI (wrapS (by omega)) rfl) trivial) ⟨trivial,⟨⟨rfl,rfl⟩,⟨rfl,rfl⟩,⟨rfl,rfl⟩,rfl,rfl,trivial⟩,trivial,⟨rfl,rfl,rfl,trivial⟩,rfl,trivial,⟨rfl,trivial⟩,trivial,⟨⟨rfl,rfl⟩,⟨rfl,rfl⟩,trivial⟩,⟨rfl,pR _⟩,⟨rfl,rfl⟩,⟨SC (by omega) hlt2 hw,pR _⟩,trivial⟩
    ·show(ah t ((1+k:Nat):Int)).2.2.2.2.length-(j+1)<(ah t ((1+k:Nat):Int)).2.2.2.2.length-j;omega
   have hje:j=(ah t ((1+k:Nat):Int)).2.2.2.2.length:=by
    have q4:decide (((j:Nat):Int)<((ah (tX b t k) ((1+k:Nat):Int)).2.2.2.2.length:Nat))=false:=q3;rw[hae]at q4;have q5:(ah t ((1+k:Nat):Int)).2.2.2.2.length≤j:=by simpa using q4
    omega
   refine aI (show(mq xs.length us'++MP t usB k).length+1≤_ by rw[List.length_append,yC,Vz];omega) ?_;refine aI (by kernel_rfl) ?_;refine Sy (k+1,usB) ⟨by show k+1+1≤t.length;omega,fun _=>hB⟩ ?_ ?_
   ·refine hd [(20000,83)] rfl (aI (aI (wrapS (by omega)) rfl) (aI (aI rfl rfl) trivial)) ⟨trivial,⟨rfl,rfl,rfl,trivial⟩,rfl,trivial,⟨rfl,trivial⟩,trivial,⟨⟨rfl,rfl⟩,⟨rfl,rfl⟩,trivial⟩,⟨?_,pR _⟩,⟨rfl,rfl⟩,⟨?_,pR _⟩,trivial⟩
    ·show(mq xs.length us'++MP t usB k)++([(Value.int .i64 (ah (tX b t k) ((1+k:Nat):Int)).1,Value.int .i64 (ah (tX b t k) ((1+k:Nat):Int)).2.1,Value.int .i64 (ah (tX b t k) ((1+k:Nat):Int)).2.2.1,usB.getD ((1+k)*5+3) undef,usB.getD ((1+k)*5+4) undef)]:List (El (hol 5)))=mq xs.length us'++MP t usB (k+1);rw[RJ,List.append_assoc,hae];rfl
    ·show EU b t k j=tX b t (k+1);rw[hje,VP]
   ·show t.length-(k+1)<t.length-k;omega
  ·exfalso;have q2:decide (((k:Nat):Int)<((t.length-1:Nat):Int))=false:=q1;have q3:((t.length-1:Nat):Int)≤((k:Nat):Int):=by simpa using q2
   have hlt':k+1<t.length:=hlt;omega
 ·have h1:t.length≤s.1+1:=hge;exact⟨by omega,hs2 (by omega)⟩
 refine aI (fun q1=> ?_) (fun q1=> ?_)
 ·exfalso;have q2:decide (((s.1:Nat):Int)<((t.length-1:Nat):Int))=true:=q1;have q3:((s.1:Nat):Int)<((t.length-1:Nat):Int):=by simpa using q2
  have h1:t.length≤s.1+1:=hge;omega
 have h1:t.length≤s.1+1:=hge;have hse:s.1=t.length-1:=by omega
 have hdr:(tX b t s.1).drop 1=(t.drop 1).map (dA b):=by rw[hse];exact SG
 have hw:IntKind.i64.wrap (q.1+b)=q.1+b:=IntWalk.i64_in _ (by
  have:=htop.1;have h2:=htop.2.1;simp only[List.length_append,List.length_map,List.length_drop]at h2;omega)
 rw[←hdr]at hy htop;have hlk:=Hw (xs++(tX b t s.1).drop 1) us' bk kv (y,0) (q.1+b,q.2) hy htop;rw[←hw]at hlk;refine Or.inr (eI _ (eI _ (aI hlk ?_)));refine aI (by kernel_rfl) ?_;refine fin [(10003,20000)] (aI rfl ?_);refine⟨trivial,⟨rfl,rfl,rfl,trivial⟩,⟨?_,hpre⟩,rfl,trivial⟩;show bQ (xs++(tX b t s.1).drop 1) (y,0) (IntKind.i64.wrap (q.1+b),q.2)=nS bk xs x y;unfold nS;rw[hw,hT,hdr,hqe,hbe]
theorem IE(x:Int):aR Tryz.prog 225 [.int .i64 x] (.int .i64 (nZ x)):=by
 refine aR.intro (nt:=6) ti_ok mixed (by kernel_rfl) Tryz.func225 rfl rfl rfl rfl rfl ?_;exact⟨rfl,rfl⟩
theorem Ck(x:Int):aR Tryz.prog 237 [.int .i64 x] (.int .i64 (nZ x)):=by
 refine aR.intro (nt:=8) ti_ok mixed (by kernel_rfl) Tryz.func237 rfl rfl rfl rfl rfl ?_;exact⟨QS x,rfl⟩
theorem NK(b:Bool):aR Tryz.prog 203 [.bool b] (.int .i64 (bif b then 1 else 0)):=by
 refine aR.intro (nt:=4) ti_ok mixed (by kernel_rfl) Tryz.func203 rfl rfl rfl rfl rfl ?_;refine aI (fun h=> ?_) (fun h=> ?_)
 ·subst h;exact⟨rfl,rfl⟩
 ·subst h;exact⟨rfl,rfl⟩
theorem WO(b:Bool):aR Tryz.prog 238 [.bool b] (.int .i64 (bif b then 1 else 0)):=by
 refine aR.intro (nt:=4) ti_ok mixed (by kernel_rfl) Tryz.func238 rfl rfl rfl rfl rfl ?_;refine aI (fun h=> ?_) (fun h=> ?_)
 ·subst h;exact⟨rfl,rfl⟩
 ·subst h;exact⟨rfl,rfl⟩
theorem TV(o a b:Int):aR Tryz.prog 202 [.int .i64 o,.int .i64 a,.int .i64 b] (.int .i64 (xG o a b)):=by
 refine aR.intro (nt:=52) ti_ok mixed (by kernel_rfl) Tryz.func202 rfl rfl rfl rfl rfl ?_;refine Or.inl (eI _ (aI (IE a) ?_));refine Or.inl (eI _ (aI (IE b) ?_));refine aI (fun h1=> ?_) (fun h1=> ?_)
 ·refine Or.inl (eI _ (aI (IE _) ?_));refine⟨?_,rfl⟩;simp only[xG,h1,cond_true]
 refine aI (fun h2=> ?_) (fun h2=> ?_)
 ·refine Or.inl (eI _ (aI (IE _) ?_));refine⟨?_,rfl⟩;simp only[xG,h1,h2,cond_true,cond_false]
 refine aI (fun h3=> ?_) (fun h3=> ?_)
 ·refine Or.inl (eI _ (aI (IE _) ?_));refine⟨?_,rfl⟩;simp only[xG,h1,h2,h3,cond_true,cond_false]
 refine aI (fun h4=> ?_) (fun h4=> ?_)
 ·refine aI (fun h5=> ?_) (fun h5=> ?_)
  ·refine⟨?_,rfl⟩;simp only[xG,h1,h2,h3,h4,h5,cond_true,cond_false]
  ·refine aI (by simpa using h5) ?_;refine Or.inl (eI _ (aI (IE _) ?_));refine⟨?_,rfl⟩;simp only[xG,h1,h2,h3,h4,h5,cond_true,cond_false]
 refine aI (fun h5=> ?_) (fun h5=> ?_)
 ·refine Or.inl (eI _ (aI (NK _) ?_));refine⟨?_,rfl⟩;simp only[xG,h1,h2,h3,h4,h5,cond_true,cond_false]
 refine aI (fun h6=> ?_) (fun h6=> ?_)
 ·refine Or.inl (eI _ (aI (NK _) ?_));refine⟨?_,rfl⟩;simp only[xG,h1,h2,h3,h4,h5,h6,cond_true,cond_false]
 ·refine⟨?_,rfl⟩;simp only[xG,h1,h2,h3,h4,h5,h6,cond_true,cond_false]
theorem Lu(o a b:Int):aR Tryz.prog 218 [.int .i64 o,.int .i64 a,.int .i64 b] (.int .i64 (xG o a b)):=by
 refine aR.intro (nt:=52) ti_ok mixed (by kernel_rfl) Tryz.func218 rfl rfl rfl rfl rfl ?_;refine Or.inl (eI _ (aI (Ck a) ?_));refine Or.inl (eI _ (aI (Ck b) ?_));refine aI (fun h1=> ?_) (fun h1=> ?_)
 ·refine Or.inl (eI _ (aI (Ck _) ?_));refine⟨?_,rfl⟩;simp only[xG,h1,cond_true]
 refine aI (fun h2=> ?_) (fun h2=> ?_)
 ·refine Or.inl (eI _ (aI (Ck _) ?_));refine⟨?_,rfl⟩;simp only[xG,h1,h2,cond_true,cond_false]
 refine aI (fun h3=> ?_) (fun h3=> ?_)
 ·refine Or.inl (eI _ (aI (Ck _) ?_));refine⟨?_,rfl⟩;simp only[xG,h1,h2,h3,cond_true,cond_false]
 refine aI (fun h4=> ?_) (fun h4=> ?_)
 ·refine aI (fun h5=> ?_) (fun h5=> ?_)
  ·refine⟨?_,rfl⟩;simp only[xG,h1,h2,h3,h4,h5,cond_true,cond_false]
  ·refine aI (by simpa using h5) ?_;refine Or.inl (eI _ (aI (Ck _) ?_));refine⟨?_,rfl⟩;simp only[xG,h1,h2,h3,h4,h5,cond_true,cond_false]
 refine aI (fun h5=> ?_) (fun h5=> ?_)
 ·refine Or.inl (eI _ (aI (WO _) ?_));refine⟨?_,rfl⟩;simp only[xG,h1,h2,h3,h4,h5,cond_true,cond_false]
 refine aI (fun h6=> ?_) (fun h6=> ?_)
 ·refine Or.inl (eI _ (aI (WO _) ?_));refine⟨?_,rfl⟩;simp only[xG,h1,h2,h3,h4,h5,h6,cond_true,cond_false]
 ·refine⟨?_,rfl⟩;simp only[xG,h1,h2,h3,h4,h5,h6,cond_true,cond_false]
theorem tL(xs:List NAgent)(us:List Value)(bk:List (El uNet))(kv:List (Int×Bool)):FCall Tryz.prog 155 [.ptr 10000 0] (tW xs us bk kv) (.int .i64 (IntKind.i64.wrap ((xs.length:Nat)-(kv.length:Nat)))) (tW xs us bk kv):=by
 refine FCall.intro (nt:=15) ti_ok mixed (by kernel_rfl) Tryz.func155 rfl rfl rfl rfl rfl rfl ?_;refine aI (by kernel_rfl) ?_;refine fin [] (aI ⟨rfl,rfl⟩ ?_);exact⟨trivial,⟨rfl,rfl,rfl,trivial⟩,⟨rfl,pR _⟩,rfl,trivial⟩
theorem yX(g:Nat)(xs:List NAgent)(us:List Value)(bk:List (El uNet))(kv:List (Int×Bool))(p q:aJ)(h:bG xs)(hp:ak xs p)(hq:ak xs q):FCall Tryz.prog 159 [.ptr 10000 0,vP p,vP q] (tW xs us bk kv) (.tup []) (tW (dN xs p q) us bk kv):=Z0 xs us bk kv p q hp (h p hp) hq
theorem TM:callOk Tryz.prog 161=true:=by kernel_rfl
theorem ZE(xs:List NAgent)(us:List Value)(bk:List (El uNet))(kv:List (Int×Bool))(x y:Int)(hA:bG xs)(h0:ak xs (0,0))(hl:xs.length≤900000)(hx:0≤x∧x<(xs.length:Nat))(h1:ak xs (y,1))(h2:(ah xs y).1=7→ak xs (y,2))(h3:(ah xs y).1≠7→0<(ah xs y).2.2.2.1.length):
  FCall Tryz.prog 161 [.ptr 10000 0,.int .i64 x,.int .i64 y] (tW xs us bk kv) (.tup []) (QL 10003 (bJ xs x y) us bk kv):=by
 have hy:0≤y∧y<(xs.length:Nat):=⟨h1.1,h1.2.1⟩;refine FCall.expose TM ?_;intro us' hpre hlen;refine FCall.intro (nt:=64) ti_ok mixed TM Tryz.func161 rfl rfl rfl rfl rfl rfl ?_;refine aI hx ?_;refine aI hy ?_;refine aI (tJ hlen hy.1 hy.2) ?_;refine aI (by kernel_rfl) ?_;refine aI (fun q1=> ?_) (fun q1=> ?_)
 ·have q1':(ah xs y).1=7:=by have q2:((ah xs y).1==7)=true:=q1;simpa using q2
  refine Or.inr (eI _ (eI _ (aI (XC xs us' bk kv 8 (ah xs y).2.1 (ah xs y).2.2.1 2 [(ah xs x).2.2.1] (by omega) (by omega) (by simp)) ?_)));have hA1:=hA.add h0 8 (ah xs y).2.1 (ah xs y).2.2.1 [(ah xs x).2.2.1] 2;refine Or.inr (eI _ (eI _ (aI (yX 0 (xs++[bD 8 (ah xs y).2.1 (ah xs y).2.2.1 [(ah xs x).2.2.1] 2]) us' bk kv (y,1) ((xs.length:Nat),0) hA1 h1.app (ak.new (by decide) (by decide))) ?_)));refine Or.inr (eI _ (eI _ (aI (yX 0 _ us' bk kv (y,2) ((xs.length:Nat),1) (hA1.move h1.app (ak.new (by decide) (by decide))) ((h2 q1').app.move) ((ak.new (by decide) (by decide)).move)) ?_)))
  refine fin [(10003,36)] (aI rfl ?_);refine⟨trivial,⟨rfl,rfl,rfl,trivial⟩,⟨?_,hpre⟩,rfl,trivial⟩;show _=bJ xs x y;unfold bJ;rw[show((ah xs y).1==7)=true from q1];rfl
 ·have q1':(ah xs y).1≠7:=by have q2:((ah xs y).1==7)=false:=q1;simpa using q2
  refine aI ⟨by decide,by have:=h3 q1';show(0:Int)<((ah xs y).2.2.2.1.length:Nat);omega⟩ ?_;refine eI 10001 (aI ⟨⟨hy.1,hy.2,sO hlen hy.1 hy.2 (by decide)⟩,by decide,by have:=h3 q1';show(0:Int)<((ah xs y).2.2.2.1.length:Nat);omega⟩ ?_);refine Or.inl (eI _ (aI (TV _ _ _) ?_));refine Or.inr (eI _ (eI _ (aI (Bf xs us' bk kv 6 0 (xG (ah xs y).2.2.1 (jC (ah xs y).2.2.2.1 0) (ah xs x).2.2.1) 1 (by omega) (by omega)) ?_)));have hA1:=hA.add h0 6 0 (xG (ah xs y).2.2.1 (jC (ah xs y).2.2.2.1 0) (ah xs x).2.2.1) [] 1;refine Or.inr (eI _ (eI _ (aI (yX 0 _ us' bk kv (y,1) ((xs.length:Nat),0) hA1 h1.app (ak.new (by decide) (by decide))) ?_)))
  refine aI (by kernel_rfl) ?_;refine fin [(10003,61)] (aI rfl ?_);refine⟨trivial,⟨rfl,rfl,rfl,trivial⟩,⟨?_,hpre⟩,rfl,trivial⟩;show _=bJ xs x y;unfold bJ;rw[show((ah xs y).1==7)=false from q1];rfl
theorem Xb:callOk Tryz.prog 158=true:=by kernel_rfl
theorem dupI(xs:List NAgent)(us:List Value)(bk:List (El uNet))(kv:List (Int×Bool))(x y:Int)(hA:bG xs)(h0:ak xs (0,0))(hl:xs.length≤900000)(hx1:ak xs (x,1))(hx2:ak xs (x,2))(hy:0≤y∧y<(xs.length:Nat))(hp:(ah xs y).2.2.2.2.length≤1000)(hdt:(ah xs y).2.2.2.1.length≤1000000)(hp0:0<(ah xs y).2.2.2.2.length):
  FCall Tryz.prog 158 [.ptr 10000 0,.int .i64 x,.int .i64 y] (tW xs us bk kv) (.tup []) (QL 10003 (bL xs x y) us bk kv):=by
 have hx:0≤x∧x<(xs.length:Nat):=⟨hx1.1,hx1.2.1⟩;refine FCall.expose Xb ?_;intro us' hpre hlen;refine FCall.intro (nt:=116) ti_ok mixed Xb Tryz.func158 rfl rfl rfl rfl rfl rfl ?_;refine aI hy ?_;refine aI (tJ hlen hy.1 hy.2) ?_;have hnp:AB xs us' y 5 3 (us'.getD (y.toNat*5+3) undef):=⟨hy.1,hy.2,sO hlen hy.1 hy.2 (by decide)⟩;refine Or.inr (eI _ (eI _ (aI (WL xs us' bk kv (ah xs y).1 (ah xs y).2.1 (ah xs y).2.2.1 (ah xs y).2.2.2.2.length y (us'.getD (y.toNat*5+3) undef) (by omega) (by omega) hnp (by omega)) ?_)));have hag:ah (xs++[nG xs y]) y=ah xs y:=dJ (by omega)
 have hnp2:AB (xs++[nG xs y]) us' y 5 3 (us'.getD (y.toNat*5+3) undef):=⟨hy.1,by rw[List.length_append,List.length_singleton];omega,sO hlen hy.1 hy.2 (by decide)⟩;have hadd2:=WL (xs++[nG xs y]) us' bk kv (ah xs y).1 (ah xs y).2.1 (ah xs y).2.2.1 (ah xs y).2.2.2.2.length y (us'.getD (y.toNat*5+3) undef) (by rw[List.length_append,List.length_singleton];omega) (by omega) hnp2 (by rw[hag];omega);rw[hag,show(xs++[nG xs y]).length=xs.length+1 by simp]at hadd2;refine Or.inr (eI _ (eI _ (aI hadd2 ?_)));have hn1:(ah xs y).2.2.2.2.length-1+1=(ah xs y).2.2.2.2.length:=by omega
 have h2A:=wV (y:=y) hA h0;have hcd:∀i:Nat,i≤(ah xs y).2.2.2.2.length-1→ak (dup2 xs y) (((xs.length:Nat):Int),(i:Nat))∧ak (dup2 xs y) (((xs.length+1:Nat):Int),(i:Nat)):=fun i hi=>⟨rG (by omega) (by omega),rH (by omega) (by omega)⟩
 refine lp Nat (fun k=>[(10,.int .i64 ((k+1:Nat):Int)),(9,.sl 20001)])
  (fun k=>[.cel 6 150 [.int .i64 (ah xs y).1,.int .i64 (ah xs y).2.1,.int .i64 (ah xs y).2.2.1,.nh y 3 (ah xs y).2.2.2.1.length (us'.getD (y.toNat*5+3) undef),.nh y 4 (ah xs y).2.2.2.2.length (us'.getD (y.toNat*5+4) undef)],
   .cel 10000 109 [.sl 20000,.rsl uNet bk,.mp 10002],.row 20000 150 5 uAgent (dP x ((xs.length:Nat)) ((xs.length+1:Nat)) (dup2 xs y) k) us',.map 10002 .bool kv,.row 20001 2 1 (.int .i64) (jD (xs.length+2) k) []])
  (fun k=>(ah xs y).2.2.2.2.length-1-k) (fun k=>k≤(ah xs y).2.2.2.2.length-1) 0 (Nat.zero_le _) ?_ ?_
 ·exact hdm [⟨9,30000,2,1,.int .i64⟩] [(20000,47),(20001,30000)] rfl (aI (aI (aI rfl rfl) (aI rfl trivial)) ⟨trivial,⟨⟨rfl,rfl⟩,⟨rfl,rfl⟩,⟨rfl,rfl⟩,rfl,rfl,trivial⟩,trivial,⟨rfl,rfl,rfl,trivial⟩,⟨rfl,pR _⟩,rfl,⟨rfl,nP⟩,trivial⟩)
 intro k hk;refine aI (fun q1=> ?_) (fun q1=> ?_)
 ·have q2:((k+1:Nat):Int)<((ah xs y).2.2.2.2.length:Nat):=by have q2:decide (((k+1:Nat):Int)<((ah xs y).2.2.2.2.length:Nat))=true:=q1;simpa using q2
  have hlt:k<(ah xs y).2.2.2.2.length-1:=by omega
  have hcl:(dP x ((xs.length:Nat)) ((xs.length+1:Nat)) (dup2 xs y) k).length=xs.length+2+k:=by rw[ji,gW]
  refine aI ⟨hx.1,by rw[hcl];omega⟩ ?_;refine Or.inr (eI _ (eI _ (aI (Bf (dP x ((xs.length:Nat)) ((xs.length+1:Nat)) (dup2 xs y) k) us' bk kv 4 (ah (dP x ((xs.length:Nat)) ((xs.length+1:Nat)) (dup2 xs y) k) x).2.1 0 3 (by rw[hcl];omega) (by omega)) ?_)));have hc:=hcd (k+1) (by omega);refine Or.inr (eI _ (eI _ (aI (Hw _ us' bk kv (((dP x ((xs.length:Nat)) ((xs.length+1:Nat)) (dup2 xs y) k).length:Nat),1) (((xs.length:Nat):Int),((k+1:Nat):Int)) (ak.new (by decide) (by decide)) (cO hc.1 k).app) ?_)));refine Or.inr (eI _ (eI _ (aI (Hw (bQ ((dP x ((xs.length:Nat)) ((xs.length+1:Nat)) (dup2 xs y) k)++[bD 4 (ah (dP x ((xs.length:Nat)) ((xs.length+1:Nat)) (dup2 xs y) k) x).2.1 0 [] 3]) (((dP x ((xs.length:Nat)) ((xs.length+1:Nat)) (dup2 xs y) k).length:Nat),1) (((xs.length:Nat):Int),((k+1:Nat):Int))) us' bk kv (((dP x ((xs.length:Nat)) ((xs.length+1:Nat)) (dup2 xs y) k).length:Nat),2) (((xs.length+1:Nat):Int),((k+1:Nat):Int)) (ak.link (ak.new (by decide) (by decide))) (cO hc.2 k).app.link) ?_)))
  refine aI (by show(jD (xs.length+2) k).length+1≤_;rw[mV];omega) ?_;refine lp_next (k+1) (by omega) ?_ ?_
  ·refine hd [(20000,65),(20001,87)] rfl (aI (aI (wrapS (by omega)) rfl) (aI rfl trivial)) ⟨trivial,⟨⟨rfl,rfl⟩,⟨rfl,rfl⟩,⟨rfl,rfl⟩,rfl,rfl,trivial⟩,trivial,⟨rfl,rfl,rfl,trivial⟩,⟨rfl,pR _⟩,rfl,⟨?_,nP⟩,trivial⟩;show jD (xs.length+2) k++[((dP x ((xs.length:Nat)) ((xs.length+1:Nat)) (dup2 xs y) k).length:Int)]=jD (xs.length+2) (k+1);rw[Ef,hcl]
  ·show(ah xs y).2.2.2.2.length-1-(k+1)<(ah xs y).2.2.2.2.length-1-k;omega
 ·have q2:((ah xs y).2.2.2.2.length:Nat)≤((k+1:Nat):Int):=by have q2:decide (((k+1:Nat):Int)<((ah xs y).2.2.2.2.length:Nat))=false:=q1;simpa using q2
  have hke:k=(ah xs y).2.2.2.2.length-1:=by omega
  subst hke;have h3A:bG (dup3 xs x y):=mU h2A (nQ h0) _ hcd;have h3:∀{p},ak xs p→ak (dup3 xs x y) p:=fun h=>cO (nQ h) _
  have hc0:ak (dup3 xs x y) (((xs.length:Nat):Int),0):=cO (rG (by decide) (by omega)) _;have hd0:ak (dup3 xs x y) (((xs.length+1:Nat):Int),0):=cO (rH (by decide) (by omega)) _;refine Or.inr (eI _ (eI _ (aI (yX 0 (dup3 xs x y) us' bk kv (x,1) ((xs.length:Nat),0) h3A (h3 hx1) hc0) ?_)));refine Or.inr (eI _ (eI _ (aI (yX 0 _ us' bk kv (x,2) ((xs.length+1:Nat),0) (h3A.move (h3 hx1) hc0) (h3 hx2).move hd0.move) ?_)));have h4A:bG (lD xs x y):=(h3A.move (h3 hx1) hc0).move (h3 hx2).move hd0.move
  have hyi:∀i:Nat,i<(ah xs y).2.2.2.2.length-1→ak (lD xs x y) (y,((i:Nat):Int)+1)∧ak (lD xs x y) (((xs.length+2+i:Nat):Int),0):=fun i hi=>by
   refine⟨(h3 ⟨hy.1,hy.2,by omega,?_⟩).move.move,?_⟩
   ·show((i:Nat):Int)+1<((ah xs y).2.2.2.2.length:Nat);omega
   ·have:=(rJ (x:=x) (c:=((xs.length:Nat):Int)) (d:=((xs.length+1:Nat):Int)) (xs:=dup2 xs y) hi).move (p:=(x,1)) (q:=(((xs.length:Nat):Int),0));have:=this.move (p:=(x,2)) (q:=(((xs.length+1:Nat):Int),0));rw[gW]at this;exact this
  refine lp Nat (fun k=>[(102,.int .i64 (k:Nat)),(100,.sl 20001)])
   (fun k=>[.cel 10000 109 [.sl 20000,.rsl uNet bk,.mp 10002],.row 20000 150 5 uAgent (dG y (xs.length+2) (lD xs x y) k) us',.map 10002 .bool kv,.row 20001 2 1 (.int .i64) (jD (xs.length+2) ((ah xs y).2.2.2.2.length-1)) []])
   (fun k=>(ah xs y).2.2.2.2.length-1-k) (fun k=>k≤(ah xs y).2.2.2.2.length-1) 0 (Nat.zero_le _) ?_ ?_
  ·exact hd [] rfl (aI (aI rfl rfl) (aI rfl trivial)) ⟨trivial,⟨rfl,rfl,rfl,trivial⟩,⟨rfl,pR _⟩,rfl,⟨rfl,nP⟩,trivial⟩
  intro k hk;refine aI (fun q1=> ?_) (fun q1=> ?_)
  ·have hlt:k<(ah xs y).2.2.2.2.length-1:=by
    have q2:decide (((k:Nat):Int)<((jD (xs.length+2) ((ah xs y).2.2.2.2.length-1)).length:Nat))=true:=q1;rw[mV]at q2;simpa using q2
   refine aI (by show(0:Int)≤(k:Nat)∧((k:Nat):Int)<((jD (xs.length+2) ((ah xs y).2.2.2.2.length-1)).length:Nat);rw[mV];omega) ?_;have hyk:=hyi k hlt;have hrp:=yX 0 (dG y (xs.length+2) (lD xs x y) k) us' bk kv (y,((k:Nat):Int)+1) (((xs.length+2+k:Nat):Int),0) (lF h4A k fun i hi=>hyi i (by omega)) (fK hyk.1 k) (fK hyk.2 k);have hw:IntKind.i64.wrap (((k:Nat):Int)+1)=((k:Nat):Int)+1:=(wrapS (by omega)).trans (by omega);have hf:elt (0:Int) (jD (xs.length+2) ((ah xs y).2.2.2.2.length-1)) (k:Nat)=((xs.length+2+k:Nat):Int):=G6 hlt
   have hrp2:FCall Tryz.prog 159 [.ptr 10000 0,vP (y,IntKind.i64.wrap (((k:Nat):Int)+1)),vP (elt (0:Int) (jD (xs.length+2) ((ah xs y).2.2.2.2.length-1)) (k:Nat),0)] (tW (dG y (xs.length+2) (lD xs x y) k) us' bk kv) (.tup []) (tW (dG y (xs.length+2) (lD xs x y) (k+1)) us' bk kv):=by
    rw[hw,hf];exact hrp
   refine Or.inr (eI _ (eI _ (aI hrp2 ?_)));refine lp_next (k+1) (by omega) ?_ ?_
   ·exact hd [] rfl (aI (aI (wrapS (by omega)) rfl) (aI rfl trivial)) ⟨trivial,⟨rfl,rfl,rfl,trivial⟩,⟨rfl,pR _⟩,rfl,⟨rfl,nP⟩,trivial⟩
   ·show(ah xs y).2.2.2.2.length-1-(k+1)<(ah xs y).2.2.2.2.length-1-k;omega
  ·have hge:(ah xs y).2.2.2.2.length-1≤k:=by
    have q2:decide (((k:Nat):Int)<((jD (xs.length+2) ((ah xs y).2.2.2.2.length-1)).length:Nat))=false:=q1;rw[mV]at q2;simpa using q2
   have hke:k=(ah xs y).2.2.2.2.length-1:=by omega
   refine fin [(10003,20000)] (aI rfl ?_);refine⟨trivial,⟨rfl,rfl,rfl,trivial⟩,⟨?_,hpre⟩,rfl,trivial⟩;show dG y (xs.length+2) (lD xs x y) k=bL xs x y;rw[hke];rfl
theorem Ll:callOk Tryz.prog 162=true:=by kernel_rfl
theorem Vm(xs:List NAgent)(us:List Value)(bk:List (El uNet))(kv:List (Int×Bool))(x y:Int)(hA:bG xs)(h0:ak xs (0,0))(hl:xs.length≤900000)(hx:0≤x∧x<(xs.length:Nat))(hy1:ak xs (y,1))(h6:(ah xs x).1=6→(ah xs y).2.2.2.1.length=2)(hc:(ah xs x).1≠6→0≤(ah xs x).2.2.1∧(ah xs x).2.2.1<((ah xs y).2.2.2.1.length:Nat))(hp:(ah xs x).2.2.2.2.length≤1000)(hp0:0<(ah xs x).2.2.2.2.length):
  FCall Tryz.prog 162 [.ptr 10000 0,.int .i64 x,.int .i64 y] (tW xs us bk kv) (.tup []) (QL 10003 (kr xs x y) us bk kv):=by
 have hy:0≤y∧y<(xs.length:Nat):=⟨hy1.1,hy1.2.1⟩;refine FCall.expose Ll ?_;intro us' hpre hlen;refine FCall.intro (nt:=105) ti_ok mixed Ll Tryz.func162 rfl rfl rfl rfl rfl rfl ?_;refine aI hx ?_;refine aI (tJ hlen hx.1 hx.2) ?_;refine aI hy ?_;refine aI (tJ hlen hy.1 hy.2) ?_;refine aI (by kernel_rfl) ?_;have hnp:AB xs us' y 5 3 (us'.getD (y.toNat*5+3) undef):=⟨hy.1,hy.2,sO hlen hy.1 hy.2 (by decide)⟩;refine aI (fun q1=> ?_) (fun q1=> ?_)
 ·have q2:(ah xs x).1=6:=by have q2:((ah xs x).1==6)=true:=q1;simpa using q2
  have hlen2:=h6 q2
  have hb:0≤(bif (ah xs x).2.2.1==0 then(1:Int)else 0)∧(bif (ah xs x).2.2.1==0 then(1:Int)else 0)<((ah xs y).2.2.2.1.length:Nat):=by
   rw[hlen2];cases ((ah xs x).2.2.1==0)<;>decide
  refine Or.inl (eI _ (aI (NK _) ?_));refine aI hb ?_;refine eI 10001 (aI ⟨hnp,hb⟩ ?_);refine Or.inr (eI _ (eI _ (aI (Bf xs us' bk kv 12 (ah xs y).2.1 (jC (ah xs y).2.2.2.1 (bif (ah xs x).2.2.1==0 then 1 else 0)) 1 (by omega) (by omega)) ?_)));have hA1:=hA.add h0 12 (ah xs y).2.1 (jC (ah xs y).2.2.2.1 (bif (ah xs x).2.2.1==0 then 1 else 0)) [] 1;refine Or.inr (eI _ (eI _ (aI (yX 0 _ us' bk kv (y,1) ((xs.length:Nat),0) hA1 hy1.app (ak.new (by decide) (by decide))) ?_)));refine aI (by kernel_rfl) ?_;refine fin [(10003,46)] (aI rfl ?_);refine⟨trivial,⟨rfl,rfl,rfl,trivial⟩,⟨?_,hpre⟩,rfl,trivial⟩
  show _=kr xs x y;unfold kr;rw[show((ah xs x).1==6)=true from q1];rfl
 ·have q2:(ah xs x).1≠6:=by have q2:((ah xs x).1==6)=false:=q1;simpa using q2
  have hv:=hc q2;refine aI hv ?_;refine eI 10001 (aI ⟨hnp,hv⟩ ?_);refine Or.inr (eI _ (eI _ (aI (Bf xs us' bk kv 12 (ah xs y).2.1 (jC (ah xs y).2.2.2.1 (ah xs x).2.2.1) 1 (by omega) (by omega)) ?_)));refine aI (by kernel_rfl) ?_;have h1A:bG (bF xs y (ah xs x).2.2.1):=hA.add h0 _ _ _ _ _;have h1l:(bF xs y (ah xs x).2.2.1).length=xs.length+1:=qV _ _ _;have h1R:ak (bF xs y (ah xs x).2.2.1) (jk (bF xs y (ah xs x).2.2.1).length 0):=by rw[h1l];exact ak.new (by decide) (by decide)
  have h1:∀{p},ak xs p→ak (bF xs y (ah xs x).2.2.1) p:=fun h=>h.app
  refine lp Nat (fun k=>[(64,.int .i64 (k:Nat)),(9,.sl 20001)])
   (fun k=>[.cel 6 150 [.int .i64 (ah xs x).1,.int .i64 (ah xs x).2.1,.int .i64 (ah xs x).2.2.1,.nh x 3 (ah xs x).2.2.2.1.length (us'.getD (x.toNat*5+3) undef),.nh x 4 (ah xs x).2.2.2.2.length (us'.getD (x.toNat*5+4) undef)],.cel 7 150 [.int .i64 (ah xs y).1,.int .i64 (ah xs y).2.1,.int .i64 (ah xs y).2.2.1,.nh y 3 (ah xs y).2.2.2.1.length (us'.getD (y.toNat*5+3) undef),.nh y 4 (ah xs y).2.2.2.2.length (us'.getD (y.toNat*5+4) undef)],.cel 8 104 [.int .i64 (jk (xs.length+1) k).1,.int .i64 (jk (xs.length+1) k).2],.cel 10000 109 [.sl 20000,.rsl uNet bk,.mp 10002],.row 20000 150 5 uAgent (qR (ah xs y).2.1 (xs.length+1) (bF xs y (ah xs x).2.2.1) k) us',.map 10002 .bool kv,.row 20001 2 1 (.int .i64) (jD (xs.length+1) k) []])
   (fun k=>((ah xs x).2.2.2.2.length-1)-k) (fun k=>k≤((ah xs x).2.2.2.2.length-1)) 0 (Nat.zero_le _) ?_ ?_
  ·exact hdm [⟨9,30000,2,1,.int .i64⟩] [(20000,58),(20001,30000)] rfl (aI (aI (aI rfl rfl) (aI rfl trivial)) ⟨trivial,⟨⟨rfl,rfl⟩,⟨rfl,rfl⟩,⟨rfl,rfl⟩,rfl,rfl,trivial⟩,trivial,⟨⟨rfl,rfl⟩,⟨rfl,rfl⟩,⟨rfl,rfl⟩,rfl,rfl,trivial⟩,trivial,⟨⟨rfl,rfl⟩,⟨rfl,rfl⟩,trivial⟩,trivial,⟨rfl,rfl,rfl,trivial⟩,⟨rfl,pR _⟩,rfl,⟨rfl,nP⟩,trivial⟩)
  intro k hk;have hcl:(qR (ah xs y).2.1 (xs.length+1) (bF xs y (ah xs x).2.2.1) k).length=xs.length+1+k:=by rw[x9,h1l]
  have hwn:IntKind.i64.wrap (((ah xs x).2.2.2.2.length:Nat)-1)=((((ah xs x).2.2.2.2.length-1):Nat):Int):=by rw[IntWalk.i64_in _ (by omega)];omega
  refine aI (fun q3=> ?_) (fun q3=> ?_)
  ·have hlt:k<((ah xs x).2.2.2.2.length-1):=by
    have q4:decide (((k:Nat):Int)<IntKind.i64.wrap (((ah xs x).2.2.2.2.length:Nat)-1))=true:=q3;rw[hwn]at q4;simpa using q4
   have hadd:=Bf (qR (ah xs y).2.1 (xs.length+1) (bF xs y (ah xs x).2.2.1) k) us' bk kv 3 (ah xs y).2.1 0 3 (by rw[hcl];omega) (by omega);rw[hcl]at hadd;refine Or.inr (eI _ (eI _ (aI hadd ?_)));have hnew:=ak.new (xs:=(qR (ah xs y).2.1 (xs.length+1) (bF xs y (ah xs x).2.2.1) k)) (k:=3) (l:=(ah xs y).2.1) (v:=0) (d:=[]) (n:=3) (s:=0) (by decide) (by decide);rw[hcl]at hnew;have hR:=GN (lv:=(ah xs y).2.1) h1R k;rw[h1l]at hR;refine Or.inr (eI _ (eI _ (aI (Hw ((qR (ah xs y).2.1 (xs.length+1) (bF xs y (ah xs x).2.2.1) k)++[bD 3 (ah xs y).2.1 0 [] 3]) us' bk kv (((xs.length+1+k:Nat):Int),0) (jk (xs.length+1) k) hnew hR.app) ?_)))
   refine aI (by kernel_rfl) ?_;refine aI (by show(jD (xs.length+1) k).length+1≤_;rw[mV];omega) ?_;refine lp_next (k+1) (by omega) ?_ ?_
   ·refine hd [(20000,69),(20001,82)] rfl (aI (aI (wrapS (by omega)) rfl) (aI rfl trivial)) ⟨trivial,⟨⟨rfl,rfl⟩,⟨rfl,rfl⟩,⟨rfl,rfl⟩,rfl,rfl,trivial⟩,trivial,⟨⟨rfl,rfl⟩,⟨rfl,rfl⟩,⟨rfl,rfl⟩,rfl,rfl,trivial⟩,trivial,⟨⟨rfl,rfl⟩,⟨rfl,rfl⟩,trivial⟩,trivial,⟨rfl,rfl,rfl,trivial⟩,⟨rfl,pR _⟩,rfl,⟨?_,nP⟩,trivial⟩;show jD (xs.length+1) k++[((xs.length+1+k:Nat):Int)]=jD (xs.length+1) (k+1);rw[Ef]
   ·show((ah xs x).2.2.2.2.length-1)-(k+1)<((ah xs x).2.2.2.2.length-1)-k;omega
  ·have hge:((ah xs x).2.2.2.2.length-1)≤k:=by
    have q4:decide (((k:Nat):Int)<IntKind.i64.wrap (((ah xs x).2.2.2.2.length:Nat)-1))=false:=q3;rw[hwn]at q4;simpa using q4
   have hke:k=((ah xs x).2.2.2.2.length-1):=by omega
   subst hke;have h2A:bG (qR (ah xs y).2.1 (xs.length+1) (bF xs y (ah xs x).2.2.1) ((ah xs x).2.2.2.2.length-1)):=by have:=Ja (lv:=(ah xs y).2.1) h1A (h1 h0) h1R ((ah xs x).2.2.2.2.length-1);rwa[h1l]at this
   have h2:∀{p},ak xs p→ak (qR (ah xs y).2.1 (xs.length+1) (bF xs y (ah xs x).2.2.1) ((ah xs x).2.2.2.2.length-1)) p:=fun h=>DL (h1 h) _
   have hxi:∀i:Nat,i<((ah xs x).2.2.2.2.length-1)→ak (qR (ah xs y).2.1 (xs.length+1) (bF xs y (ah xs x).2.2.1) ((ah xs x).2.2.2.2.length-1)) (x,((i:Nat):Int)+1)∧ak (qR (ah xs y).2.1 (xs.length+1) (bF xs y (ah xs x).2.2.1) ((ah xs x).2.2.2.2.length-1)) (((xs.length+1+i:Nat):Int),1):=fun i hi=>by
    refine⟨h2 ⟨hx.1,hx.2,by omega,?_⟩,?_⟩
    ·show((i:Nat):Int)+1<((ah xs x).2.2.2.2.length:Nat);omega
    ·have:=zV (lv:=(ah xs y).2.1) (xs:=(bF xs y (ah xs x).2.2.1)) (s:=1) (by decide) (by decide) hi;rw[h1l]at this;exact this
   refine lp Nat (fun k=>[(86,.int .i64 (k:Nat)),(84,.sl 20001)])
    (fun k=>[.cel 8 104 [.int .i64 (jk (xs.length+1) ((ah xs x).2.2.2.2.length-1)).1,.int .i64 (jk (xs.length+1) ((ah xs x).2.2.2.2.length-1)).2],.cel 10000 109 [.sl 20000,.rsl uNet bk,.mp 10002],.row 20000 150 5 uAgent (DK x (xs.length+1) (qR (ah xs y).2.1 (xs.length+1) (bF xs y (ah xs x).2.2.1) ((ah xs x).2.2.2.2.length-1)) k) us',.map 10002 .bool kv,.row 20001 2 1 (.int .i64) (jD (xs.length+1) ((ah xs x).2.2.2.2.length-1)) []])
    (fun k=>((ah xs x).2.2.2.2.length-1)-k) (fun k=>k≤((ah xs x).2.2.2.2.length-1)) 0 (Nat.zero_le _) ?_ ?_
   ·exact hd [] rfl (aI (aI rfl rfl) (aI rfl trivial)) ⟨trivial,⟨⟨rfl,rfl⟩,⟨rfl,rfl⟩,trivial⟩,trivial,⟨rfl,rfl,rfl,trivial⟩,⟨rfl,pR _⟩,rfl,⟨rfl,nP⟩,trivial⟩
   intro k hk;refine aI (fun q3=> ?_) (fun q3=> ?_)
   ·have hlt:k<((ah xs x).2.2.2.2.length-1):=by
     have q2:decide (((k:Nat):Int)<((jD (xs.length+1) ((ah xs x).2.2.2.2.length-1)).length:Nat))=true:=q3;rw[mV]at q2;simpa using q2
    refine aI (by show(0:Int)≤(k:Nat)∧((k:Nat):Int)<((jD (xs.length+1) ((ah xs x).2.2.2.2.length-1)).length:Nat);rw[mV];omega) ?_;have hyk:=hxi k hlt;have hrp:=yX 0 (DK x (xs.length+1) (qR (ah xs y).2.1 (xs.length+1) (bF xs y (ah xs x).2.2.1) ((ah xs x).2.2.2.2.length-1)) k) us' bk kv (x,((k:Nat):Int)+1) (((xs.length+1+k:Nat):Int),1) (Dl h2A k fun i hi=>hxi i (by omega)) (nM hyk.1 k) (nM hyk.2 k);have hw:IntKind.i64.wrap (((k:Nat):Int)+1)=((k:Nat):Int)+1:=(wrapS (by omega)).trans (by omega)
    have hf:elt (0:Int) (jD (xs.length+1) ((ah xs x).2.2.2.2.length-1)) (k:Nat)=((xs.length+1+k:Nat):Int):=G6 hlt
    have hrp2:FCall Tryz.prog 159 [.ptr 10000 0,vP (x,IntKind.i64.wrap (((k:Nat):Int)+1)),vP (elt (0:Int) (jD (xs.length+1) ((ah xs x).2.2.2.2.length-1)) (k:Nat),1)] (tW (DK x (xs.length+1) (qR (ah xs y).2.1 (xs.length+1) (bF xs y (ah xs x).2.2.1) ((ah xs x).2.2.2.2.length-1)) k) us' bk kv) (.tup []) (tW (DK x (xs.length+1) (qR (ah xs y).2.1 (xs.length+1) (bF xs y (ah xs x).2.2.1) ((ah xs x).2.2.2.2.length-1)) (k+1)) us' bk kv):=by
     rw[hw,hf];exact hrp
    refine Or.inr (eI _ (eI _ (aI hrp2 ?_)));refine lp_next (k+1) (by omega) ?_ ?_
    ·exact hd [] rfl (aI (aI (wrapS (by omega)) rfl) (aI rfl trivial)) ⟨trivial,⟨⟨rfl,rfl⟩,⟨rfl,rfl⟩,trivial⟩,trivial,⟨rfl,rfl,rfl,trivial⟩,⟨rfl,pR _⟩,rfl,⟨rfl,nP⟩,trivial⟩
    ·show((ah xs x).2.2.2.2.length-1)-(k+1)<((ah xs x).2.2.2.2.length-1)-k;omega
   ·have hge:((ah xs x).2.2.2.2.length-1)≤k:=by
     have q2:decide (((k:Nat):Int)<((jD (xs.length+1) ((ah xs x).2.2.2.2.length-1)).length:Nat))=false:=q3;rw[mV]at q2;simpa using q2
    have hke:k=((ah xs x).2.2.2.2.length-1):=by omega
    have hR:=GN (lv:=(ah xs y).2.1) h1R ((ah xs x).2.2.2.2.length-1);rw[h1l]at hR;refine Or.inr (eI _ (eI _ (aI (yX 0 (DK x (xs.length+1) (qR (ah xs y).2.1 (xs.length+1) (bF xs y (ah xs x).2.2.1) ((ah xs x).2.2.2.2.length-1)) k) us' bk kv (y,1) (jk (xs.length+1) ((ah xs x).2.2.2.2.length-1)) (Dl h2A k fun i hi=>hxi i (by omega)) (nM (h2 hy1) k) (nM hR k)) ?_)));refine fin [(10003,20000)] (aI rfl ?_);refine⟨trivial,⟨rfl,rfl,rfl,trivial⟩,⟨?_,hpre⟩,rfl,trivial⟩;show dN (DK x (xs.length+1) (qR (ah xs y).2.1 (xs.length+1) (bF xs y (ah xs x).2.2.1) ((ah xs x).2.2.2.2.length-1)) k) (y,1) (jk (xs.length+1) ((ah xs x).2.2.2.2.length-1))=kr xs x y
    unfold kr;rw[show((ah xs x).1==6)=false from q1,hke];rfl
theorem Jd(xs:List NAgent)(us:List Value)(bk:List (List NAgent))(kv:List (Int×Bool))(p:Int×Int)(h1:0≤p.1∧p.1<(xs.length:Nat))(h2:0≤p.2∧p.2<(xs.length:Nat))(hb:IG bk)(hs:∀i:Nat,NetSmall (bR bk i))
  (hx:(bC (ah xs p.1) (ah xs p.2)).1=7→0≤(ah xs (bif (bC (ah xs p.1) (ah xs p.2)).2 then p.2 else p.1)).2.2.1∧0≤(ah xs (bif (bC (ah xs p.1) (ah xs p.2)).2 then p.2 else p.1)).2.1∧(ah xs (bif (bC (ah xs p.1) (ah xs p.2)).2 then p.2 else p.1)).2.1≤8):
  FCall Tryz.prog 154 [.ptr 10000 0,vP p] (tW xs us bk kv) (.tup [.int .i64 (checkN bk xs p).1,.int .i64 (checkN bk xs p).2.1,.int .i64 (checkN bk xs p).2.2.1,.int .i64 (checkN bk xs p).2.2.2]) (tW xs us bk kv):=
 FCall.of_q ti_ok [85,0] OX (fun m=>XK xs bk m p h1 h2 hb hs hx) rfl
theorem WU(xs:List NAgent)(us:List Value)(bk:List (List NAgent))(kv:List (Int×Bool))(c x y:Int)(hx:0≤x∧x<(xs.length:Nat))(hy:0≤y∧y<(xs.length:Nat))(h7:c=7→0≤(ah xs x).2.2.1∧(ah xs x).2.2.1<(bk.length:Nat)):
  FCall Tryz.prog 156 [.ptr 10000 0,.int .i64 c,.int .i64 x,.int .i64 y] (tW xs us bk kv) (.int .i64 (sW bk xs c x y)) (tW xs us bk kv):=
 FCall.of_q ti_ok [85,0,0,0] TK (fun m=>Zr xs bk m c x y hx hy h7) rfl
theorem vJ:callOk Tryz.prog 103=true:=by kernel_rfl
section
variable (xs:List NAgent)(us:List Value)(bk:List (List NAgent))(kv:List (Int×Bool))(p:Int×Int)(h1:0≤p.1∧p.1<(xs.length:Nat))(h2:0≤p.2∧p.2<(xs.length:Nat))(hb:IG bk)(hs:∀i:Nat,NetSmall (bR bk i))
  (hx:(bC (ah xs p.1) (ah xs p.2)).1=7→0≤(ah xs (bif (bC (ah xs p.1) (ah xs p.2)).2 then p.2 else p.1)).2.2.1∧0≤(ah xs (bif (bC (ah xs p.1) (ah xs p.2)).2 then p.2 else p.1)).2.1∧(ah xs (bif (bC (ah xs p.1) (ah xs p.2)).2 then p.2 else p.1)).2.1≤8)
include h1 h2 hb hs hx
theorem Sm(hc:(checkN bk xs p).2.2.2≠0):FCall Tryz.prog 103 [.ptr 10000 0,vP p] (tW xs us bk kv) (.int .i64 (checkN bk xs p).2.2.2) (tW xs us bk kv):=by
 refine FCall.intro (nt:=103) ti_ok mixed vJ Tryz.func103 rfl rfl rfl rfl rfl rfl ?_;refine Or.inr (eI _ (eI _ (aI (Jd xs us bk kv p h1 h2 hb hs hx) ?_)));refine aI (fun q1=> ?_) (fun q1=> ?_)
 ·refine fin [] (aI ⟨rfl,rfl⟩ ?_);exact⟨trivial,⟨rfl,rfl,rfl,trivial⟩,⟨rfl,pR _⟩,rfl,trivial⟩
 ·have q2:((checkN bk xs p).2.2.2 !=0)=false:=q1;simp at q2;exact absurd q2 hc
theorem Qe{c x y:Int}(hc:checkN bk xs p=(c,x,y,0))(hx0:0≤x∧x<(xs.length:Nat))(hy0:0≤y∧y<(xs.length:Nat))(h7:c=7→0≤(ah xs x).2.2.1∧(ah xs x).2.2.1<(bk.length:Nat))
  (hf:600<IntKind.i64.wrap (IntKind.i64.wrap ((xs.length:Nat)-(kv.length:Nat))+sW bk xs c x y)):FCall Tryz.prog 103 [.ptr 10000 0,vP p] (tW xs us bk kv) (.int .i64 4) (tW xs us bk kv):=by
 have hck:=Jd xs us bk kv p h1 h2 hb hs hx;rw[hc]at hck;refine FCall.intro (nt:=103) ti_ok mixed vJ Tryz.func103 rfl rfl rfl rfl rfl rfl ?_;refine Or.inr (eI _ (eI _ (aI hck ?_)));refine aI (fun q1=>by cases q1) (fun q1=> ?_);refine Or.inr (eI _ (eI _ (aI (tL xs us bk kv) ?_)));refine Or.inr (eI _ (eI _ (aI (WU xs us bk kv c x y hx0 hy0 h7) ?_)));refine aI (fun q2=> ?_) (fun q2=> ?_)
 ·refine fin [] (aI ⟨rfl,rfl⟩ ?_);exact⟨trivial,⟨rfl,rfl,rfl,trivial⟩,⟨rfl,pR _⟩,rfl,trivial⟩
 ·have q3:decide (600<IntKind.i64.wrap (IntKind.i64.wrap ((xs.length:Nat)-(kv.length:Nat))+sW bk xs c x y))=false:=q2;simp only[decide_eq_false_iff_not]at q3;exact absurd hf q3
theorem VI{c x y:Int}(hc:checkN bk xs p=(c,x,y,0))(hc7:1≤c∧c≤7)(hp:IntPre xs c x y)(hA:bG xs)(h0:ak xs (0,0))(hl:xs.length≤800000)(h7:c=7→0≤(ah xs x).2.2.1∧(ah xs x).2.2.1<(bk.length:Nat))
  (hf:¬600<IntKind.i64.wrap (IntKind.i64.wrap ((xs.length:Nat)-(kv.length:Nat))+sW bk xs c x y))
  (hE:c=7→∀us,FCall Tryz.prog 163 [.ptr 10000 0,.int .i64 x,.int .i64 y] (tW xs us bk kv) (.tup []) (QL 10003 (nS bk xs x y) us bk kv)):
  FCall Tryz.prog 103 [.ptr 10000 0,vP p] (tW xs us bk kv) (.int .i64 0) (QL 10003 (gZ bk xs c x y) us bk (mD kv (gH c x y))):=by
 have hck:=Jd xs us bk kv p h1 h2 hb hs hx;rw[hc]at hck;obtain⟨hx0,hy0,p12,p3,px,py,dy,p5,p6⟩:=hp;refine FCall.expose vJ ?_;intro us' hpre hlen;have hck:=Jd xs us' bk kv p h1 h2 hb hs hx;rw[hc]at hck;refine FCall.intro (nt:=103) ti_ok mixed vJ Tryz.func103 rfl rfl rfl rfl rfl rfl ?_;refine Or.inr (eI _ (eI _ (aI hck ?_)));refine aI (fun q1=>by cases q1) (fun q1=> ?_);refine Or.inr (eI _ (eI _ (aI (tL xs us' bk kv) ?_)));refine Or.inr (eI _ (eI _ (aI (WU xs us' bk kv c x y hx0 hy0 h7) ?_)));refine aI (fun q2=> ?_) (fun q2=> ?_)
 ·have q3:decide (600<IntKind.i64.wrap (IntKind.i64.wrap ((xs.length:Nat)-(kv.length:Nat))+sW bk xs c x y))=true:=q2;simp only[decide_eq_true_eq]at q3;exact absurd q3 hf
 refine aI (fun b1=> ?_) (fun b1=> ?_)
 ·have c1:c=1:=by have b:(c==1)=true:=b1;simpa using b
  have n7:(c==7)=false:=by rw[c1];rfl
  refine aI (fun _=> ?_) (fun h=>by rw[show(c==1)=true from b1]at h;cases h);obtain⟨j1,j2,j3,j4⟩:=p12 (.inl c1);refine Or.inr (eI _ (eI _ (aI (OJ xs us' bk kv (x,1) (y,1) j1 j3 (hA _ j1) (hA _ j3)) ?_)));have hA1:=hA.join j1 j3;refine Or.inr (eI _ (eI _ (aI (OJ (aT xs (x,1) (y,1)) us' bk kv (x,2) (y,2) j2.join j4.join (hA1 _ j2.join) (hA1 _ j4.join)) ?_)));refine Or.inr (eI _ (eI _ (aI (vS (aT (aT xs (x,1) (y,1)) (x,2) (y,2)) us' bk kv [x,y] (by simp)) ?_)));refine fin [(10003,10001)] (aI ⟨rfl,rfl⟩ ?_);refine⟨trivial,⟨rfl,rfl,rfl,trivial⟩,⟨?_,hpre⟩,?_,trivial⟩
  ·show(aT (aT xs (x,1) (y,1)) (x,2) (y,2))=gZ bk xs c x y;simp only[gZ,b1,cond_true,cond_false]
  ·show mD kv [x,y]=mD kv (gH c x y);simp only[gH,n7,cond_true,cond_false]
 refine aI (fun b2=> ?_) (fun b2=> ?_)
 ·have c2:c=2:=by have b:(c==2)=true:=b2;simpa using b
  have n7:(c==7)=false:=by rw[c2];rfl
  obtain⟨j1,j2,j3,j4⟩:=p12 (.inr c2);refine Or.inr (eI _ (eI _ (aI (OJ xs us' bk kv (x,1) (y,1) j1 j3 (hA _ j1) (hA _ j3)) ?_)));have hA1:=hA.join j1 j3;refine Or.inr (eI _ (eI _ (aI (OJ (aT xs (x,1) (y,1)) us' bk kv (x,2) (y,2) j2.join j4.join (hA1 _ j2.join) (hA1 _ j4.join)) ?_)));refine Or.inr (eI _ (eI _ (aI (vS (aT (aT xs (x,1) (y,1)) (x,2) (y,2)) us' bk kv [x,y] (by simp)) ?_)));refine fin [(10003,10001)] (aI ⟨rfl,rfl⟩ ?_);refine⟨trivial,⟨rfl,rfl,rfl,trivial⟩,⟨?_,hpre⟩,?_,trivial⟩
  ·show(aT (aT xs (x,1) (y,1)) (x,2) (y,2))=gZ bk xs c x y;simp only[gZ,b1,b2,cond_true,cond_false]
  ·show mD kv [x,y]=mD kv (gH c x y);simp only[gH,n7,cond_true,cond_false]
 refine aI (fun b3=> ?_) (fun b3=> ?_)
 ·have c3:c=3:=by have b:(c==3)=true:=b3;simpa using b
  have n7:(c==7)=false:=by rw[c3];rfl
  obtain⟨j1,j2⟩:=p3 c3;refine Or.inr (eI _ (eI _ (aI (dupI xs us' bk kv x y hA h0 (by omega) j1 j2 hy0 py.2 dy py.1) ?_)));refine Or.inr (eI _ (eI _ (aI (vS (bL xs x y) us' bk kv [x,y] (by simp)) ?_)));refine fin [(10003,51)] (aI ⟨rfl,rfl⟩ ?_);refine⟨trivial,⟨rfl,rfl,rfl,trivial⟩,⟨?_,hpre⟩,?_,trivial⟩
  ·show(bL xs x y)=gZ bk xs c x y;simp only[gZ,b1,b2,b3,cond_true,cond_false]
  ·show mD kv [x,y]=mD kv (gH c x y);simp only[gH,n7,cond_true,cond_false]
 refine aI (fun b4=> ?_) (fun b4=> ?_)
 ·have c4:c=4:=by have b:(c==4)=true:=b4;simpa using b
  have n7:(c==7)=false:=by rw[c4];rfl
  have hyk:∀i:Nat,i<((ah xs y).2.2.2.2.length-1)→ak xs (y,((i+1:Nat):Int)):=fun i hi=>⟨hy0.1,hy0.2,by omega,by show((i+1:Nat):Int)<((ah xs y).2.2.2.2.length:Nat);omega⟩
  refine lp Nat (fun k=>[(9,.int .i64 ((k+1:Nat):Int))]) (fun k=>[.cel 10000 109 [.sl 20000,.rsl uNet bk,.mp 10002],.row 20000 150 5 uAgent (sS y xs k) us',.map 10002 .bool kv]) (fun k=>((ah xs y).2.2.2.2.length-1)-k) (fun k=>k≤((ah xs y).2.2.2.2.length-1)) 0 (Nat.zero_le _) ?_ ?_
  ·exact hd [(20000,10001)] rfl (aI (aI rfl rfl) trivial) ⟨trivial,⟨rfl,rfl,rfl,trivial⟩,⟨rfl,pR _⟩,rfl,trivial⟩
  intro k hk;refine aI (show 0≤y∧y<((sS y xs k).length:Nat) by rw[kC];omega) ?_;refine aI (tJ hlen hy0.1 hy0.2) ?_;have hpl:(ah (sS y xs k) y).2.2.2.2.length=(ah xs y).2.2.2.2.length:=G5 (by omega) k;refine aI (fun q4=> ?_) (fun q4=> ?_)
  ·have hlt:k<((ah xs y).2.2.2.2.length-1):=by
    have q5:decide (((k+1:Nat):Int)<((ah (sS y xs k) y).2.2.2.2.length:Nat))=true:=q4;rw[hpl]at q5;have q6:((k+1:Nat):Int)<((ah xs y).2.2.2.2.length:Nat):=by simpa using q5
    omega
   have hadd:=Bf (sS y xs k) us' bk kv 5 0 0 1 (by rw[kC];omega) (by omega);rw[kC]at hadd;refine Or.inr (eI _ (eI _ (aI hadd ?_)));refine Or.inr (eI _ (eI _ (aI (yX 0 (sS y xs k++[bD 5 0 0 [] 1]) us' bk kv (y,((k+1:Nat):Int)) (((xs.length+k:Nat):Int),0) ((yh hA h0 k fun i hi=>hyk i (by omega)).add (pO h0 k) _ _ _ _ _) (pO (hyk k hlt) k).app (Af k)) ?_)));refine lp_next (k+1) (by omega) ?_ ?_
   ·exact hd [(20000,73)] rfl (aI (aI (wrapS (by omega)) rfl) trivial) ⟨trivial,⟨rfl,rfl,rfl,trivial⟩,⟨rfl,pR _⟩,rfl,trivial⟩
   ·show((ah xs y).2.2.2.2.length-1)-(k+1)<((ah xs y).2.2.2.2.length-1)-k;omega
  have hge:((ah xs y).2.2.2.2.length-1)≤k:=by
   have q5:decide (((k+1:Nat):Int)<((ah (sS y xs k) y).2.2.2.2.length:Nat))=false:=q4;rw[hpl]at q5;have q6:((ah xs y).2.2.2.2.length:Nat)≤((k+1:Nat):Int):=by simpa using q5
   omega
  have hke:k=((ah xs y).2.2.2.2.length-1):=by omega
  subst hke;refine Or.inr (eI _ (eI _ (aI (vS (iD xs y) us' bk kv [x,y] (by simp)) ?_)));refine fin [(10003,20000)] (aI ⟨rfl,rfl⟩ ?_);refine⟨trivial,⟨rfl,rfl,rfl,trivial⟩,⟨?_,hpre⟩,?_,trivial⟩
  ·show(iD xs y)=gZ bk xs c x y;simp only[gZ,b1,b2,b3,b4,cond_true,cond_false]
  ·show mD kv [x,y]=mD kv (gH c x y);simp only[gH,n7,cond_true,cond_false]
 refine aI (fun b5=> ?_) (fun b5=> ?_)
 ·have c5:c=5:=by have b:(c==5)=true:=b5;simpa using b
  have n7:(c==7)=false:=by rw[c5];rfl
  obtain⟨j1,j2,j3⟩:=p5 c5;refine Or.inr (eI _ (eI _ (aI (ZE xs us' bk kv x y hA h0 (by omega) hx0 j1 j2 j3) ?_)));refine Or.inr (eI _ (eI _ (aI (vS (bJ xs x y) us' bk kv [x,y] (by simp)) ?_)));refine fin [(10003,81)] (aI ⟨rfl,rfl⟩ ?_);refine⟨trivial,⟨rfl,rfl,rfl,trivial⟩,⟨?_,hpre⟩,?_,trivial⟩
  ·show(bJ xs x y)=gZ bk xs c x y;simp only[gZ,b1,b2,b3,b4,b5,cond_true,cond_false]
  ·show mD kv [x,y]=mD kv (gH c x y);simp only[gH,n7,cond_true,cond_false]
 refine aI (fun b6=> ?_) (fun b6=> ?_)
 ·have c6:c=6:=by have b:(c==6)=true:=b6;simpa using b
  have n7:(c==7)=false:=by rw[c6];rfl
  obtain⟨j1,j2,j3⟩:=p6 c6;refine Or.inr (eI _ (eI _ (aI (Vm xs us' bk kv x y hA h0 (by omega) hx0 j1 j2 j3 px.2 px.1) ?_)));refine Or.inr (eI _ (eI _ (aI (vS (kr xs x y) us' bk kv [x,y] (by simp)) ?_)));refine fin [(10003,87)] (aI ⟨rfl,rfl⟩ ?_);refine⟨trivial,⟨rfl,rfl,rfl,trivial⟩,⟨?_,hpre⟩,?_,trivial⟩
  ·show(kr xs x y)=gZ bk xs c x y;simp only[gZ,b1,b2,b3,b4,b5,b6,cond_true,cond_false]
  ·show mD kv [x,y]=mD kv (gH c x y);simp only[gH,n7,cond_true,cond_false]
 refine aI (fun b7=> ?_) (fun b7=> ?_)
 ·have c7:c=7:=by have b:(c==7)=true:=b7;simpa using b
  refine Or.inr (eI _ (eI _ (aI (hE c7 us') ?_)));refine Or.inr (eI _ (eI _ (aI (vS (nS bk xs x y) us' bk kv [x] (by simp)) ?_)));refine fin [(10003,93)] (aI ⟨rfl,rfl⟩ ?_);refine⟨trivial,⟨rfl,rfl,rfl,trivial⟩,⟨?_,hpre⟩,?_,trivial⟩
  ·show(nS bk xs x y)=gZ bk xs c x y;simp only[gZ,b1,b2,b3,b4,b5,b6,b7,cond_true,cond_false]
  ·show mD kv [x]=mD kv (gH c x y);simp only[gH,b7,cond_true,cond_false]
 ·exfalso;simp at b1 b2 b3 b4 b5 b6 b7;omega
end
end Go.Proofs.YtemalpelcdmemaaGreat
namespace Go.Proofs.YtemalpelcdmemaaGreat
open Go Go.RowKit Go.Proofs Go.Tr
abbrev tR(xs:List NAgent)(us:List Value)(bk:List (List NAgent))(kv:List (Int×Bool))(ev:List bX):List Tok:=[.cel 10000 87 [.ptr 10001 0,.sl 10004],.cel 10001 109 [.sl 10002,.rsl uNet bk,.mp 10003],.row 10002 150 5 uAgent xs us,.map 10003 .bool kv,.row 10004 74 5 UO ev []]
abbrev tRn(g1 g2:Nat)(xs:List NAgent)(us:List Value)(bk:List (List NAgent))(kv:List (Int×Bool))(ev:List bX):List Tok:=[.cel 10000 87 [.ptr 10001 0,.sl g2],.cel 10001 109 [.sl g1,.rsl uNet bk,.mp 10003],.row g1 150 5 uAgent xs us,.map 10003 .bool kv,.row g2 74 5 UO ev []]
section
variable (xs:List NAgent)(us:List Value)(bk:List (List NAgent))(kv:List (Int×Bool))(ev:List bX)
end
end Go.Proofs.YtemalpelcdmemaaGreat
namespace Go.Proofs.YtemalpelcdmemaaGreat
open Go Go.RowKit Go.Proofs Go.Tr
section
variable (xs:List NAgent)(us:List Value)(bk:List (List NAgent))(kv:List (Int×Bool))(ev:List bX)
variable (p:Int×Int)(h1:0≤p.1∧p.1<(xs.length:Nat))(h2:0≤p.2∧p.2<(xs.length:Nat))
include h1 h2
end
end Go.Proofs.YtemalpelcdmemaaGreat
namespace Go.Proofs.YtemalpelcdmemaaGreat
open Go Go.RowKit Go.Proofs Go.Tr
abbrev Ww(e:bX):SV:=.agg [.int .i64 e.1,.int .i64 e.2.1,.int .i64 e.2.2.1,.int .i64 e.2.2.2.1,.int .i64 e.2.2.2.2]
section
variable (xs:List NAgent)(us:List Value)(bk:List (List NAgent))(kv:List (Int×Bool))(ev:List bX)(e:bX)
variable (ha:UK xs kv e.1=true)(hb:UK xs kv e.2.1=true)(hp:0<(ah xs e.1).2.2.2.2.length)
include ha hb hp
variable (h:Ve xs e.1 e.2.1=true)
include h
end
end Go.Proofs.YtemalpelcdmemaaGreat
namespace Go.Proofs.YtemalpelcdmemaaGreat
open Go Go.RowKit Go.Proofs Go.Tr
theorem O1:callOk Tryz.prog 101=true:=by kernel_rfl
theorem Ya(xs:List NAgent)(bk:List (List NAgent))(h:NetSmall xs):FCall Tryz.prog 101 [.rsl uNet bk,.agg [.rsl uAgent xs]] [] (.ptr 10000 0) [.cel 10000 109 [.sl 10001,.rsl uNet bk,.mp 10002],.row 10001 150 5 uAgent xs [],.map 10002 .bool []]:=by
 refine FCall.intro (nt:=11) ti_ok mixed O1 Tryz.func101 rfl rfl rfl rfl rfl rfl ?_;refine Or.inr (eI _ (eI _ (aI (Aa xs h) ?_)));refine fin [(10000,10),(10001,6),(10002,8)] (aI rfl ?_);exact⟨trivial,⟨rfl,rfl,rfl,trivial⟩,⟨rfl,nP⟩,rfl,trivial⟩
end Go.Proofs.YtemalpelcdmemaaGreat
