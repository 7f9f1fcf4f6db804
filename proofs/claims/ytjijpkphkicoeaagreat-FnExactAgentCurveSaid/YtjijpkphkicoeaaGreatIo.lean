
/- The program's nets: wires. -/
import Derived.Test.YtjijpkphkicoeaaGreatShort
import Derived.Test.YtjijpkphkicoeaaGreatProg
import Derived.Test.YtjijpkphkicoeaaGreatVti
import Derived.Test.YtjijpkphkicoeaaGreatNz
import Derived.Test.YtjijpkphkicoeaaGreatVV
import Derived.Test.YtjijpkphkicoeaaGreatValid
set_option maxHeartbeats 4000000
set_option maxRecDepth 100000
set_option linter.unusedSimpArgs false
set_option linter.unusedVariables false
set_option linter.unusedSectionVars false
namespace Go.Proofs.YtjijpkphkicoeaaGreat
open Go Go.RowKit Go.Proofs Go.Tr
abbrev tW(xs:List NAgent)(us:List Value)(bk:List (El uNet))(kv:List (Int×Bool)):List Tok:=[.cel 10000 87 [.sl 10001,.rsl uNet bk,.mp 10002],.row 10001 131 5 uAgent xs us,.map 10002 .bool kv]
theorem MQ:callOk Tryz.prog 162=true:=by kernel_rfl
theorem BL(xs:List NAgent)(us:List Value)(bk:List (El uNet))(kv:List (Int×Bool))(p q:NPort)(hp:PortIn xs p)(hq:PortIn xs q):FCall Tryz.prog 162 [.ptr 10000 0,vP p,vP q] (tW xs us bk kv) (.tup []) (tW (aR xs p q) us bk kv):=by
 refine FCall.expose MQ ?_;intro us' hpre hlen;have hq':PortIn (ay xs p q) q:=hq.set;obtain⟨p1,p2,p3,p4⟩:=hp;obtain⟨q1,q2,q3,q4⟩:=hq';have q2':q.1<(xs.length:Nat):=by rwa[bn]at q2
 refine FCall.intro (nt:=32) ti_ok mixed MQ Tryz.func162 rfl rfl rfl rfl rfl rfl ?_;refine aI ⟨p1,p2⟩ ?_;refine aI (oG hlen p1 p2) ?_;refine aI ⟨p3,p4⟩ ?_;refine eI 10001 (aI ⟨⟨p1,p2,nU hlen p1 p2 (by decide)⟩,p3,p4⟩ ?_);refine aI (by kernel_rfl) ?_;refine aI ⟨q1,q2⟩ ?_;refine aI (oG hlen q1 q2') ?_;refine aI ⟨q3,q4⟩ ?_;refine eI 10001 (aI ⟨⟨q1,q2,nU hlen q1 q2' (by decide)⟩,q3,q4⟩ ?_);refine aI (by kernel_rfl) ?_;refine fin [] (aI rfl ?_);exact⟨trivial,⟨rfl,rfl,rfl,trivial⟩,⟨rfl,hpre⟩,rfl,trivial⟩
theorem G7:callOk Tryz.prog 128=true:=by kernel_rfl
theorem peerI(xs:List NAgent)(p:NPort)(hp:PortIn xs p):QCall Tryz.prog 128 [.rp uNet xs,vP p] (vP (peerN xs p)):=by
 obtain⟨p1,p2,p3,p4⟩:=hp;refine QCall.intro (nt:=18) ti_ok mixed G7 Tryz.func128 rfl rfl rfl rfl rfl ?_;refine aI ⟨p1,p2⟩ ?_;refine aI ⟨p3,p4⟩ ?_;refine aI (by kernel_rfl) ?_;exact rfl
theorem M7(xs:List NAgent)(us:List Value)(bk:List (El uNet))(kv:List (Int×Bool))(p:NPort)(hp:PortIn xs p):FCall Tryz.prog 128 [.ptr 10000 0,vP p] (tW xs us bk kv) (vP (peerN xs p)) (tW xs us bk kv):=
 FCall.of_q ti_ok [61,0] G7 (peerI xs p hp) rfl
theorem TB(xs:List NAgent)(us:List Value)(bk:List (El uNet))(kv:List (Int×Bool))(p q:NPort)(hp:PortIn xs p)(hr:PortIn xs (peerN xs p))(hq:PortIn xs q):FCall Tryz.prog 109 [.ptr 10000 0,vP p,vP q] (tW xs us bk kv) (.tup []) (tW (bG xs p q) us bk kv):=by
 refine FCall.intro (nt:=16) ti_ok mixed (by kernel_rfl) Tryz.func109 rfl rfl rfl rfl rfl rfl ?_;refine Or.inr (eI _ (eI _ (aI (M7 xs us bk kv p hp) ?_)));refine Or.inr (eI _ (eI _ (aI (BL xs us bk kv _ q hr hq) ?_)));refine aI (by kernel_rfl) ?_;refine fin [] (aI rfl ?_);exact⟨trivial,⟨rfl,rfl,rfl,trivial⟩,⟨rfl,pR _⟩,rfl,trivial⟩
theorem Jk(xs:List NAgent)(us:List Value)(bk:List (El uNet))(kv:List (Int×Bool))(p q:NPort)(hp:PortIn xs p)(hq:PortIn xs q)(hr:PortIn xs (peerN xs p))(hs:PortIn xs (peerN xs q)):FCall Tryz.prog 107 [.ptr 10000 0,vP p,vP q] (tW xs us bk kv) (.tup []) (tW (aB xs p q) us bk kv):=by
 refine FCall.intro (nt:=27) ti_ok mixed (by kernel_rfl) Tryz.func107 rfl rfl rfl rfl rfl rfl ?_;refine Or.inr (eI _ (eI _ (aI (M7 xs us bk kv p hp) ?_)));refine Or.inr (eI _ (eI _ (aI (M7 xs us bk kv q hq) ?_)));refine aI (by kernel_rfl) ?_;refine aI ⟨by kernel_rfl,rfl⟩ ?_;refine aI (fun h1=> ?_) (fun h1=> ?_)
 ·refine Or.inr (eI _ (eI _ (aI (BL xs us bk kv (peerN xs p) (peerN xs q) hr hs) ?_)));refine aI (by kernel_rfl) ?_;refine fin [] (aI rfl ?_);refine⟨trivial,⟨rfl,rfl,rfl,trivial⟩,⟨?_,pR _⟩,rfl,trivial⟩;have h1:(!dO [(peerN xs p).1,(peerN xs p).2] [q.1,q.2])=true:=h1
  have h2:((peerN xs p).1==q.1&&(peerN xs p).2==q.2)=false:=by
   cases hc:((peerN xs p).1==q.1&&(peerN xs p).2==q.2)with
   |false=>rfl
   |true=>simp[dO,hc]at h1
  show aR xs (peerN xs p) (peerN xs q)=_;unfold aB;rw[h2];rfl
 ·refine fin [] (aI rfl ?_);refine⟨trivial,⟨rfl,rfl,rfl,trivial⟩,⟨?_,pR _⟩,rfl,trivial⟩;have h1:(!dO [(peerN xs p).1,(peerN xs p).2] [q.1,q.2])=false:=h1;have h2:((peerN xs p).1==q.1&&(peerN xs p).2==q.2)=true:=by simpa[dO]using h1
  show xs=_;unfold aB;rw[h2];rfl
theorem rO:callOk Tryz.prog 163=true:=by kernel_rfl
theorem Gy(xs:List (El (.int .i64)))(hx:xs.length≤1048576):FCall Tryz.prog 163 [.rsl (.int .i64) xs] [] (.sl 10000) [.row 10000 2 1 (.int .i64) xs []]:=by
 refine FCall.Ta (fun he c=> ?_) ?_
 ·subst he;refine FCall.intro (nt:=8) ti_ok mixed rO Tryz.func163 rfl rfl rfl rfl rfl rfl ?_;refine aI (fun h1=> ?_) (fun h1=>by cases h1);refine QX [⟨2,30000,2,1,.int .i64⟩] [(10000,30000)] (aI rfl ?_);exact⟨⟨rfl,nP⟩,trivial⟩
 ·refine FCall.intro (nt:=8) ti_ok mixed rO Tryz.func163 rfl rfl rfl rfl rfl rfl ?_;refine aI (fun h1=>by cases h1) (fun h1=> ?_);refine aI (by show 0+xs.length≤_;omega) ?_;refine fin [(10000,7)] (aI rfl ?_);exact⟨⟨rfl,nP⟩,trivial⟩
theorem BZ:callOk Tryz.prog 186=true:=by kernel_rfl
theorem Ov(xs:List (El (uPort)))(hx:xs.length≤1048576):FCall Tryz.prog 186 [.rsl (uPort) xs] [] (.sl 10000) [.row 10000 102 2 (uPort) xs []]:=by
 refine FCall.Ta (fun he c=> ?_) ?_
 ·subst he;refine FCall.intro (nt:=8) ti_ok mixed BZ Tryz.func186 rfl rfl rfl rfl rfl rfl ?_;refine aI (fun h1=> ?_) (fun h1=>by cases h1);refine QX [⟨2,30000,102,2,uPort⟩] [(10000,30000)] (aI rfl ?_);exact⟨⟨rfl,nP⟩,trivial⟩
 ·refine FCall.intro (nt:=8) ti_ok mixed BZ Tryz.func186 rfl rfl rfl rfl rfl rfl ?_;refine aI (fun h1=>by cases h1) (fun h1=> ?_);refine aI (by show 0+xs.length≤_;omega) ?_;refine fin [(10000,7)] (aI rfl ?_);exact⟨⟨rfl,nP⟩,trivial⟩
theorem qC(xs:List NAgent)(us:List Value)(bk:List (El uNet))(kv:List (Int×Bool))(ks:List Int)(hk:ks.length≤1000):FCall Tryz.prog 114 [.ptr 10000 0,.sl 10003] (tW xs us bk kv++[.row 10003 2 1 (.int .i64) ks []]) (.tup []) (tW xs us bk (jo kv ks)):=by
 refine FCall.intro (nt:=18) ti_ok mixed (by kernel_rfl) Tryz.func114 rfl rfl rfl rfl rfl rfl ?_;refine lp Nat (fun i=>[(8,.int .i64 (i:Nat))]) (fun i=>tW xs us bk (jo kv (ks.take i))++[.row 10003 2 1 (.int .i64) ks []]) (fun i=>ks.length-i) (fun i=>i≤ks.length) 0 (Nat.zero_le _) ?_ ?_
 ·exact hd [] rfl (aI (aI rfl rfl) trivial) ⟨trivial,⟨rfl,rfl,rfl,trivial⟩,⟨rfl,pR _⟩,rfl,⟨rfl,nP⟩,trivial⟩
 intro i hi;refine aI (fun h1=> ?_) (fun h1=> ?_)
 ·have hlt:i<ks.length:=by simpa using h1
  refine aI (by show(0:Int)≤(i:Nat)∧((i:Nat):Int)<(ks.length:Nat);omega) ?_;refine lp_next (i+1) hlt ?_ ?_
  ·refine hd [] rfl (aI (aI (wrapS (by omega)) rfl) trivial) ⟨trivial,⟨rfl,rfl,rfl,trivial⟩,⟨rfl,pR _⟩,KQ kv hlt,⟨rfl,nP⟩,trivial⟩
  ·show ks.length-(i+1)<ks.length-i;omega
 ·have hge:ks.length≤i:=by simpa using h1
  refine fin [] (aI rfl ?_);refine⟨trivial,⟨rfl,rfl,rfl,trivial⟩,⟨rfl,pR _⟩,?_,trivial⟩;show jo kv (ks.take i)=jo kv ks;rw[List.take_of_length_le hge]
theorem lV(a b:Bool):(bif a then b else false)=(a&&b):=by cases a<;>rfl
theorem yO(a b:Bool):(bif a then true else b)=(a||b):=by cases a<;>rfl
theorem Dn(n lo hi:Int):QCall Tryz.prog 87 [.int .i64 n,.int .i64 lo,.int .i64 hi] (.bool (inB n lo hi)):=by
 refine QCall.intro (nt:=15) ti_ok mixed (by kernel_rfl) Tryz.func87 rfl rfl rfl rfl rfl ?_;exact lV _ _
theorem Qj(n:Int):QCall Tryz.prog 187 [.int .i64 n] (.bool (iM n)):=by
 refine QCall.intro (nt:=9) ti_ok mixed (by kernel_rfl) Tryz.func187 rfl rfl rfl rfl rfl ?_;exact lV _ _
theorem Ml(n:Int):QCall Tryz.prog 189 [.int .i64 n] (.bool (tC n)):=by
 refine QCall.intro (nt:=9) ti_ok mixed (by kernel_rfl) Tryz.func189 rfl rfl rfl rfl rfl ?_;exact lV _ _
theorem yG(k:Int):QCall Tryz.prog 188 [.int .i64 k] (.bool (aU k)):=by
 refine QCall.intro (nt:=17) ti_ok mixed (by kernel_rfl) Tryz.func188 rfl rfl rfl rfl rfl ?_;refine Or.inl (eI _ (aI (Qj k) ?_));refine Eq.trans (Eq.refl _) ?_;simp only[lV,aU]
theorem yH(k:Int):QCall Tryz.prog 180 [.int .i64 k] (.bool (aU k)):=by
 refine QCall.intro (nt:=14) ti_ok mixed (by kernel_rfl) Tryz.func180 rfl rfl rfl rfl rfl ?_
 repeat' (refine aI (fun _=> ?_) (fun _=> ?_))
 all_goals (refine Eq.trans (Eq.refl _) ?_)
 all_goals (simp_all [aU,iM,inB])
 all_goals omega
theorem CK(k l:Int):QCall Tryz.prog 158 [.int .i64 k,.int .i64 l] (.bool (bf k l)):=by
 refine QCall.intro (nt:=19) ti_ok mixed (by kernel_rfl) Tryz.func158 rfl rfl rfl rfl rfl ?_;refine Or.inl (eI _ (aI (Qj k) ?_));refine Or.inl (eI _ (aI (fun _=>yG k) ?_));refine Or.inl (eI _ (aI (fun _=>Ml l) ?_));refine Eq.trans (Eq.refl _) ?_;simp only[lV,yO,bf]
theorem SN(k:Int):QCall Tryz.prog 207 [.int .i64 k] (.bool (iM k)):=by
 refine QCall.intro (nt:=5) ti_ok mixed (by kernel_rfl) Tryz.func207 rfl rfl rfl rfl rfl ?_;refine Or.inl (eI _ (aI (Dn k 1 12) ?_));exact rfl
theorem Gn(k l:Int):QCall Tryz.prog 195 [.int .i64 k,.int .i64 l] (.bool (bf k l)):=by
 refine QCall.intro (nt:=15) ti_ok mixed (by kernel_rfl) Tryz.func195 rfl rfl rfl rfl rfl ?_;refine Or.inl (eI _ (aI (yH k) ?_));refine aI (fun q=> ?_) (fun q=> ?_)
 ·refine Or.inl (eI _ (aI (Dn l 0 8) ?_));refine Eq.trans (Eq.refl _) ?_;have q:aU k=true:=q;have hk:iM k=true:=by cases h:iM k with|true=>rfl|false=>rw[kG h]at q;cases q
  simp only[bf,q,hk,Bool.true_and,tC]
  by_cases h0:l=0
  ·subst h0;rfl
  ·simp[h0]
 ·refine Or.inl (eI _ (aI (SN k) ?_));refine Eq.trans (Eq.refl _) ?_;have q:aU k=false:=q;simp only[lV,bf,q,Bool.false_and,Bool.or_false]
theorem SC(k:Int):QCall Tryz.prog 191 [.int .i64 k] (.bool (lH k)):=by
 refine QCall.intro (nt:=21) ti_ok mixed (by kernel_rfl) Tryz.func191 rfl rfl rfl rfl rfl ?_;refine Eq.trans (Eq.refl _) ?_;simp only[yO,lH,Bool.or_assoc]
theorem SE(k:Int):QCall Tryz.prog 198 [.int .i64 k] (.bool (lH k)):=by
 refine QCall.intro (nt:=10) ti_ok mixed (by kernel_rfl) Tryz.func198 rfl rfl rfl rfl rfl ?_
 repeat' (refine aI (fun _=> ?_) (fun _=> ?_))
 all_goals (refine Eq.trans (Eq.refl _) ?_)
 all_goals simp_all [lH]
theorem Uk(t k l:Int):QCall Tryz.prog 190 [.int .i64 t,.int .i64 k,.int .i64 l] (.bool (yg t k l)):=by
 refine QCall.intro (nt:=31) ti_ok mixed (by kernel_rfl) Tryz.func190 rfl rfl rfl rfl rfl ?_;refine Or.inl (eI _ (aI (Ml t) ?_));refine Or.inl (eI _ (aI (fun _=>CK k l) ?_));refine aI (fun q=> ?_) (fun q=> ?_)
 ·refine Eq.trans (Eq.refl _) ?_;simp only[yg];have q:(bif !tC t then true else !bf k l)=true:=q;revert q;cases tC t<;>cases bf k l<;>simp
 ·refine Or.inl (eI _ (aI (fun _=>yG k) ?_));refine Eq.trans (Eq.refl _) ?_;have q:(bif !tC t then true else !bf k l)=false:=q;have h:tC t=true∧bf k l=true:=by revert q;cases tC t<;>cases bf k l<;>simp
  simp only[lV,yO,yg,h.1,h.2,Bool.true_and,Bool.or_assoc]
theorem Ul(t k l:Int):QCall Tryz.prog 197 [.int .i64 t,.int .i64 k,.int .i64 l] (.bool (yg t k l)):=by
 refine QCall.intro (nt:=29) ti_ok mixed (by kernel_rfl) Tryz.func197 rfl rfl rfl rfl rfl ?_;refine Or.inl (eI _ (aI (Dn t 0 8) ?_));refine Or.inl (eI _ (aI (fun _=>Gn k l) ?_));refine aI (fun q=> ?_) (fun q=> ?_)
 ·refine Eq.trans (Eq.refl _) ?_;simp only[yg];have q:(bif !tC t then true else !bf k l)=true:=q;revert q;cases tC t<;>cases bf k l<;>simp
 ·have q:(bif !tC t then true else !bf k l)=false:=q;have h:tC t=true∧bf k l=true:=by revert q;cases tC t<;>cases bf k l<;>simp
  refine aI (fun q2=> ?_) (fun q2=> ?_)
  ·refine Eq.trans (Eq.refl _) ?_;have q2:(bif k==6 then true else k==12)=true:=q2;rw[yO]at q2;simp only[yg,h.1,h.2,q2,Bool.true_and,Bool.true_or]
  ·refine Or.inl (eI _ (aI (yH k) ?_));refine Eq.trans (Eq.refl _) ?_;have q2:(bif k==6 then true else k==12)=false:=q2;rw[yO]at q2;simp only[lV,yg,h.1,h.2,q2,Bool.true_and,Bool.false_or]
theorem Qu(ka la kb lb:Int):QCall Tryz.prog 159 [.int .i64 ka,.int .i64 la,.int .i64 kb,.int .i64 lb] (.int .i64 (rule ka la kb lb)):=by
 refine QCall.intro (nt:=52) ti_ok mixed (by kernel_rfl) Tryz.func159 rfl rfl rfl rfl rfl ?_;refine aI (fun _=> ?_) (fun _=>aI (fun _=>aI (fun _=> ?_) (fun _=>Or.inl (eI _ (aI (Uk la kb lb) (aI (fun _=> ?_) (fun _=> ?_)))))) (fun _=> ?_))
 repeat' (refine aI ?_ ?_<;>intro _)
 rotate_right 2
 refine Or.inl (eI _ (aI (SC kb) (aI (fun _=> ?_) (fun _=> ?_))))
 all_goals (refine aI (Eq.trans (Eq.refl _) ?_) rfl)
 all_goals (simp_all [rule])
theorem JR(ka la kb lb:Int):QCall Tryz.prog 174 [.int .i64 ka,.int .i64 la,.int .i64 kb,.int .i64 lb] (.int .i64 (rule ka la kb lb)):=by
 refine QCall.intro (nt:=50) ti_ok mixed (by kernel_rfl) Tryz.func174 rfl rfl rfl rfl rfl ?_;refine aI (fun _=> ?_) (fun _=>aI (fun _=>aI (fun _=> ?_) (fun _=>Or.inl (eI _ (aI (Ul la kb lb) (aI (fun _=> ?_) (fun _=> ?_)))))) (fun _=> ?_))
 repeat' (refine aI ?_ ?_<;>intro _)
 rotate_right 2
 refine Or.inl (eI _ (aI (SE kb) (aI (fun _=> ?_) (fun _=> ?_))))
 all_goals (refine aI (Eq.trans (Eq.refl _) ?_) rfl)
 all_goals (simp_all [rule])
theorem Pp(a b c d:Int):QCall Tryz.prog 103 [.int .i64 a,.int .i64 b,.int .i64 c,.int .i64 d] (.tup [.int .i64 (aC a b c d),.int .i64 (aG a b c d)]):=by
 have hp:∀{z:Bool},(bif (bif (bif a==1 then true else c==1)then true else !bf a b)then true else !bf c d)=z→jl a b c d= !z:=fun q=>by
  subst q;unfold jl;simp only[bne];generalize (a==1)=x;generalize (c==1)=y;cases x<;>cases y<;>cases bf a b<;>cases bf c d<;>rfl
 refine QCall.intro (nt:=46) ti_ok mixed (by kernel_rfl) Tryz.func103 rfl rfl rfl rfl rfl ?_;refine Or.inl (eI _ (aI (fun _=>CK a b) ?_));refine Or.inl (eI _ (aI (fun _=>CK c d) ?_));refine aI (fun q=> ?_) (fun q=> ?_)
 ·refine Eq.trans (Eq.refl _) ?_;simp only[aC,aG,hp q];rfl
 refine Or.inl (eI _ (aI (Qu a b c d) ?_));refine aI (fun q2=> ?_) (fun q2=> ?_)
 ·refine Eq.trans (Eq.refl _) ?_;have q2:(rule a b c d !=0)=true:=q2;have q2:¬rule a b c d=0:=by simpa using q2
  simp only[aC,aG,hp q,q2,if_false];rfl
 have q2:(rule a b c d !=0)=false:=q2;have q2:rule a b c d=0:=by simpa using q2
 refine Or.inl (eI _ (aI (Qu c d a b) ?_));refine aI (fun q3=> ?_) (fun q3=> ?_)
 ·refine Eq.trans (Eq.refl _) ?_;have q3:(rule c d a b !=0)=true:=q3;have q3:¬rule c d a b=0:=by simpa using q3
  simp only[aC,aG,hp q,q2,q3,if_false];rfl
 ·refine Eq.trans (Eq.refl _) ?_;have q3:(rule c d a b !=0)=false:=q3;have q3:rule c d a b=0:=by simpa using q3
  simp only[aC,aG,hp q,q2,q3];rfl
theorem M4(a b c d:Int):QCall Tryz.prog 173 [.int .i64 a,.int .i64 b,.int .i64 c,.int .i64 d] (.bool (jl a b c d)):=by
 refine QCall.intro (nt:=25) ti_ok mixed (by kernel_rfl) Tryz.func173 rfl rfl rfl rfl rfl ?_;refine Or.inl (eI _ (aI (Gn a b) ?_));refine Or.inl (eI _ (aI (fun _=>Gn c d) ?_));refine Eq.trans (Eq.refl _) ?_;simp only[lV,jl]
theorem Hf(a b c d:Int):QCall Tryz.prog 136 [.int .i64 a,.int .i64 b,.int .i64 c,.int .i64 d] (.int .i64 (aC a b c d)):=by
 refine QCall.intro (nt:=31) ti_ok mixed (by kernel_rfl) Tryz.func136 rfl rfl rfl rfl rfl ?_;refine Or.inl (eI _ (aI (M4 a b c d) ?_));refine aI (fun q=> ?_) (fun q=> ?_)
 ·refine aI (Eq.trans (Eq.refl _) ?_) rfl;have q:(!jl a b c d)=true:=q;simp[aC,show jl a b c d=false by simpa using q]
 have q:jl a b c d=true:=by have q:(!jl a b c d)=false:=q;simpa using q
 refine Or.inl (eI _ (aI (JR a b c d) ?_));refine aI (fun q2=>Or.inl (eI _ (aI (JR c d a b) ?_))) (fun q2=> ?_)
 all_goals (refine aI (fun q3=> ?_) (fun q3=> ?_))
 all_goals (refine aI (Eq.trans (Eq.refl _) ?_) rfl)
 all_goals (simp_all [aC])
theorem LQ(a b c d:Int):QCall Tryz.prog 167 [.int .i64 a,.int .i64 b,.int .i64 c,.int .i64 d] (.int .i64 (aG a b c d)):=by
 refine QCall.intro (nt:=27) ti_ok mixed (by kernel_rfl) Tryz.func167 rfl rfl rfl rfl rfl ?_;refine Or.inl (eI _ (aI (M4 a b c d) ?_));refine aI (fun q=> ?_) (fun q=> ?_)
 ·refine aI (Eq.trans (Eq.refl _) ?_) rfl;have q:(!jl a b c d)=true:=q;simp[aG,show jl a b c d=false by simpa using q]
 have q:jl a b c d=true:=by have q:(!jl a b c d)=false:=q;simpa using q
 refine Or.inl (eI _ (aI (JR a b c d) ?_));refine aI (fun q2=> ?_) (fun q2=> ?_)
 ·refine aI (Eq.trans (Eq.refl _) ?_) rfl
  simp_all [aG]
 refine Or.inl (eI _ (aI (JR c d a b) ?_));refine aI (fun q3=> ?_) (fun q3=> ?_)
 all_goals (refine aI (Eq.trans (Eq.refl _) ?_) rfl)
 all_goals (simp_all [aG])
theorem sO:callOk Tryz.prog 59=true:=by kernel_rfl
theorem Ll(xs:List NAgent)(p:Int×Int)(h1:0≤p.1∧p.1<(xs.length:Nat))(h2:0≤p.2∧p.2<(xs.length:Nat)):QCall Tryz.prog 59 [.rp uNet xs,vP p] (.tup [.int .i64 (aH (agAt xs p.1) (agAt xs p.2)).1,.bool (aH (agAt xs p.1) (agAt xs p.2)).2]):=by
 refine QCall.intro (nt:=60) ti_ok mixed sO Tryz.func59 rfl rfl rfl rfl rfl ?_;refine aI h1 ?_;refine aI h2 ?_;refine aI (by kernel_rfl) ?_;refine Or.inl (eI _ (aI (Pp _ _ _ _) ?_));refine aI (fun q1=> ?_) (fun q1=> ?_)
 ·refine aI (fun q2=> ?_) (fun q2=> ?_)
  ·have e:=Gw (x:=agAt xs p.1) (y:=agAt xs p.2) q1 q2;rw[e];exact rfl
  ·have e:=Gu (x:=agAt xs p.1) (y:=agAt xs p.2) q1 q2;rw[e];exact rfl
 ·refine aI (fun q2=> ?_) (fun q2=> ?_)
  ·have e:=Gt (x:=agAt xs p.1) (y:=agAt xs p.2) q1 q2;rw[e];exact rfl
  ·have e:=Gs (x:=agAt xs p.1) (y:=agAt xs p.2) q1 q2;rw[e];exact rfl
theorem sH(c p:Int):QCall Tryz.prog 161 [.int .i64 c,.int .i64 p] (.tup [.int .i64 (bI c p).1,.int .i64 (bI c p).2]):=by
 refine QCall.intro (nt:=34) ti_ok mixed (by kernel_rfl) Tryz.func161 rfl rfl rfl rfl rfl ?_
 repeat' (refine aI (fun _=> ?_) (fun _=> ?_))
 all_goals (refine Eq.trans (Eq.refl _) ?_;(first|(simp only[bI,iA, *,cond_true,cond_false];done)|(simp_all [bI,iA];done)|(simp_all [bI,iA];grind)))
theorem yV(x:NAgent)(h1:x.data.length≤1048576)(h2:x.ports.length≤1048576):FCall Tryz.prog 157 [.agg [.int .i64 x.1,.int .i64 x.2.1,.int .i64 x.2.2.1,.rsl (.int .i64) x.2.2.2.1,.rsl uPort x.2.2.2.2]] [] (.agg [.int .i64 x.1,.int .i64 x.2.1,.int .i64 x.2.2.1,.sl 10000,.sl 10001]) [.row 10000 2 1 (.int .i64) x.2.2.2.1 [],.row 10001 102 2 uPort x.2.2.2.2 []]:=by
 refine FCall.intro (nt:=12) ti_ok mixed (by kernel_rfl) Tryz.func157 rfl rfl rfl rfl rfl rfl ?_;refine Or.inr (eI _ (eI _ (aI (Gy _ h1) ?_)));refine Or.inr (eI _ (eI _ (aI (Ov _ h2) ?_)));refine aI (by kernel_rfl) ?_;refine fin [(10000,5),(10001,8)] (aI rfl ?_);exact⟨⟨rfl,nP⟩,⟨rfl,nP⟩,trivial⟩
theorem BR:callOk Tryz.prog 102=true:=by kernel_rfl
theorem vo(xs:List NAgent)(h:NetSmall xs):FCall Tryz.prog 102 [.agg [.rsl uAgent xs]] [] (.agg [.sl 10000]) [.row 10000 131 5 uAgent xs []]:=by
 obtain⟨hl,ha⟩:=h;refine FCall.intro (nt:=27) ti_ok mixed BR Tryz.func102 rfl rfl rfl rfl rfl rfl ?_;refine aI ⟨Int.le_refl 0,by omega,by omega⟩ ?_;refine lp Nat (fun i=>[(14,.int .i64 (i:Nat))]) (fun i=>[.cel 2 30 [.raw (.slice none 0 0)],.cel 3 30 [.sl 20000],.row 20000 131 5 uAgent (xs.take i) []]) (fun i=>xs.length-i) (fun i=>i≤xs.length) 0 (Nat.zero_le _) ?_ ?_
 ·exact hd [(20000,9)] rfl (aI (aI rfl rfl) trivial) ⟨trivial,⟨rfl,trivial⟩,trivial,⟨rfl,trivial⟩,⟨rfl,nP⟩,trivial⟩
 intro i hi;refine aI (fun q1=> ?_) (fun q1=> ?_)
 ·have hlt:i<xs.length:=by simpa using q1
  refine aI (by show(0:Int)≤(i:Nat)∧((i:Nat):Int)<(xs.length:Nat);omega) ?_;refine Or.inr (eI _ (eI _ (aI (yV (agAt xs i) (ha i).1 (ha i).2) ?_)));refine aI (by show(xs.take i).length+1≤_;rw[List.length_take];omega) ?_;refine aI (by kernel_rfl) ?_;refine lp_next (i+1) hlt ?_ ?_
  ·refine hd [(20000,23)] rfl (aI (aI (wrapS (by omega)) rfl) trivial) ⟨trivial,⟨rfl,trivial⟩,trivial,⟨rfl,trivial⟩,⟨?_,nP⟩,trivial⟩;show xs.take i++[agAt xs i]=xs.take (i+1);rw[List.take_add_one,List.getElem?_eq_getElem hlt];unfold agAt elt;rw[Int.toNat_natCast,List.getD_eq_getElem?_getD,List.getElem?_eq_getElem hlt];rfl
  ·show xs.length-(i+1)<xs.length-i;omega
 ·have hge:xs.length≤i:=by simpa using q1
  refine fin [(10000,20000)] (aI rfl ?_);refine⟨⟨?_,nP⟩,trivial⟩;show xs.take i=xs;rw[List.take_of_length_le hge]
abbrev KW(g:Nat)(xs:List NAgent)(us:List Value)(bk:List (El uNet))(kv:List (Int×Bool)):List Tok:=[.cel 10000 87 [.sl g,.rsl uNet bk,.mp 10002],.row g 131 5 uAgent xs us,.map 10002 .bool kv]
theorem MK:callOk Tryz.prog 110=true:=by kernel_rfl
theorem Lr:FCall Tryz.prog 163 [.raw (.slice none 0 0)] [] (.sl 10000) [.row 10000 2 1 (.int .i64) [] []]:=by
 refine FCall.intro (nt:=8) ti_ok mixed rO Tryz.func163 rfl rfl rfl rfl rfl rfl ?_;refine aI (fun h1=> ?_) (fun h1=>by cases h1);refine QX [⟨2,30000,2,1,.int .i64⟩] [(10000,30000)] (aI rfl ?_);exact⟨⟨rfl,nP⟩,trivial⟩
theorem wL(xs:List NAgent)(us:List Value)(bk:List (El uNet))(kv:List (Int×Bool))(k l v:Int)(n:Nat)(hl:xs.length≤1000000)(hn:n≤1000000):FCall Tryz.prog 110 [.ptr 10000 0,.int .i64 k,.int .i64 l,.int .i64 v,.raw (.slice none 0 0),.int .i64 (n:Nat)] (tW xs us bk kv) (.int .i64 (xs.length:Nat)) (KW 10003 (xs++[aJ k l v [] n]) us bk kv):=by
 refine FCall.intro (nt:=39) ti_ok mixed MK Tryz.func110 rfl rfl rfl rfl rfl rfl ?_;refine Or.inr (eI _ (eI _ (aI Lr ?_)));refine aI ⟨by omega,Int.le_refl _,by omega⟩ ?_;refine aI (by show xs.length+1≤_;omega) ?_;refine aI (by kernel_rfl) ?_;refine fin [(10003,28)] (aI ?_ ?_)
 ·show IntKind.i64.wrap (((xs++[aJ k l v [] n]).length:Nat)-1)=((xs.length:Nat):Int)∧IntKind.i64=IntKind.i64;rw[List.length_append,List.length_singleton,IntWalk.i64_in _ (by omega)];exact⟨by omega,rfl⟩
 ·exact⟨trivial,⟨rfl,rfl,rfl,trivial⟩,⟨rfl,pR _⟩,rfl,trivial⟩
theorem Ls(ds:List Int)(hd:ds.length≤1048576):FCall Tryz.prog 163 [.sl 10000] [.row 10000 2 1 (.int .i64) ds []] (.sl 10001) [.row 10001 2 1 (.int .i64) ds [],.row 10000 2 1 (.int .i64) ds []]:=
 FCall.of_f (ts2:=[.row 10001 2 1 (.int .i64) ds []]) ti_ok [0] rO (Gy ds hd) rfl rfl rfl
theorem QJ(xs:List NAgent)(us:List Value)(bk:List (El uNet))(kv:List (Int×Bool))(k l v:Int)(n:Nat)(ds:List Int)(hl:xs.length≤1000000)(hn:n≤1000000)(hd:ds.length≤1000000):FCall Tryz.prog 110 [.ptr 10000 0,.int .i64 k,.int .i64 l,.int .i64 v,.sl 10003,.int .i64 (n:Nat)] (tW xs us bk kv++[.row 10003 2 1 (.int .i64) ds []]) (.int .i64 (xs.length:Nat)) (KW 10004 (xs++[aJ k l v ds n]) us bk kv):=by
 refine FCall.intro (nt:=39) ti_ok mixed MK Tryz.func110 rfl rfl rfl rfl rfl rfl ?_;refine Or.inr (eI _ (eI _ (aI (Ls ds (by omega)) ?_)));refine aI ⟨by omega,Int.le_refl _,by omega⟩ ?_;refine aI (by show xs.length+1≤_;omega) ?_;refine aI (by kernel_rfl) ?_;refine fin [(10004,28)] (aI ?_ ?_)
 ·show IntKind.i64.wrap (((xs++[aJ k l v ds n]).length:Nat)-1)=((xs.length:Nat):Int)∧IntKind.i64=IntKind.i64;rw[List.length_append,List.length_singleton,IntWalk.i64_in _ (by omega)];exact⟨by omega,rfl⟩
 ·exact⟨trivial,⟨rfl,rfl,rfl,trivial⟩,⟨rfl,pR _⟩,rfl,trivial⟩
theorem Ou(xs:List NAgent)(us:List Value)(y:Int)(hdr:Value)(hy:vW xs us y 5 3 hdr)(hd:(agAt xs y).data.length≤1048576):FCall Tryz.prog 163 [.nh y 3 (agAt xs y).data.length hdr] [.row 10000 131 5 uAgent xs us] (.sl 10001) [.row 10001 2 1 (.int .i64) (agAt xs y).data [],.row 10000 131 5 uAgent xs us]:=
 FCall.of_f (ts2:=[.row 10001 2 1 (.int .i64) (agAt xs y).data []]) ti_ok [0] rO (eI 10000 (aI hy (Gy (agAt xs y).data hd))) rfl rfl rfl
theorem Qb(xs:List NAgent)(us:List Value)(bk:List (El uNet))(kv:List (Int×Bool))(k l v:Int)(n:Nat)(y:Int)(hdr:Value)(hl:xs.length≤1000000)(hn:n≤1000000)(hy:vW xs us y 5 3 hdr)(hd:(agAt xs y).data.length≤1000000):FCall Tryz.prog 110 [.ptr 10000 0,.int .i64 k,.int .i64 l,.int .i64 v,.nh y 3 (agAt xs y).data.length hdr,.int .i64 (n:Nat)] (tW xs us bk kv) (.int .i64 (xs.length:Nat)) (KW 10003 (xs++[aJ k l v (agAt xs y).data n]) us bk kv):=by
 refine FCall.intro (nt:=39) ti_ok mixed MK Tryz.func110 rfl rfl rfl rfl rfl rfl ?_;refine Or.inr (eI _ (eI _ (aI (Ou xs us y hdr hy (by omega)) ?_)));refine aI ⟨by omega,Int.le_refl _,by omega⟩ ?_;refine aI (by show xs.length+1≤_;omega) ?_;refine aI (by kernel_rfl) ?_;refine fin [(10003,28)] (aI ?_ ?_)
 ·show IntKind.i64.wrap (((xs++[aJ k l v (agAt xs y).data n]).length:Nat)-1)=((xs.length:Nat):Int)∧IntKind.i64=IntKind.i64;rw[List.length_append,List.length_singleton,IntWalk.i64_in _ (by omega)];exact⟨by omega,rfl⟩
 ·exact⟨trivial,⟨rfl,rfl,rfl,trivial⟩,⟨rfl,pR _⟩,rfl,trivial⟩
theorem BU:callOk Tryz.prog 160=true:=by kernel_rfl
theorem Ag(xs:List NAgent)(b:Int)(h:NetSmall xs)(hb:0≤b∧b≤8)(hlv:∀i:Nat,0≤(agAt xs i).2.1∧(agAt xs i).2.1≤8)(hok:dA b xs=true):FCall Tryz.prog 160 [.agg [.rsl uAgent xs],.int .i64 b] [] (.tup [.agg [.sl 10000],.bool true]) [.row 10000 131 5 uAgent (aY b xs) []]:=by
 refine FCall.intro (nt:=43) ti_ok mixed BU Tryz.func160 rfl rfl rfl rfl rfl rfl ?_;refine Or.inr (eI _ (eI _ (aI (vo xs h) ?_)));refine lp Nat (fun i=>[(14,.int .i64 (i:Nat)),(12,.sl 20000)]) (fun i=>[.cel 4 30 [.raw (.slice none 0 0)],.cel 6 30 [.sl 20000],.row 20000 131 5 uAgent (dz b xs i) []]) (fun i=>xs.length-i) (fun i=>i≤xs.length∧dA b (xs.take i)=true) 0 ⟨Nat.zero_le _,rfl⟩ ?_ ?_
 ·exact hd [(20000,10)] rfl (aI (aI rfl rfl) (aI rfl trivial)) ⟨trivial,⟨rfl,trivial⟩,trivial,⟨rfl,trivial⟩,⟨rfl,nP⟩,trivial⟩
 intro i ⟨hi,hi2⟩;refine aI (fun q1=> ?_) (fun q1=> ?_)
 ·have hlt:i<xs.length:=by simpa using q1
  refine aI ⟨by omega,by rw[kM];omega⟩ ?_;refine Or.inl (eI _ (aI (yG _) ?_));have hat:agAt (dz b xs i) (i:Nat)=agAt xs (i:Nat):=Ae hlt;refine aI (fun q2=> ?_) (fun q2=> ?_)
  ·have q3:(!(aU (agAt (dz b xs i) (i:Nat)).1))=true:=q2;rw[hat]at q3;have hlev:aU (agAt xs (i:Nat)).1=false:=by simpa using q3
   refine lp_next (i+1) ⟨hlt,?_⟩ ?_ ?_
   ·rw[j6 hlt,hi2,hlev];rfl
   ·exact hd [] rfl (aI (aI (wrapS (by have:=h.1;omega)) rfl) (aI rfl trivial)) ⟨trivial,⟨rfl,trivial⟩,trivial,⟨rfl,trivial⟩,⟨(Af hlt hlev).symm,nP⟩,trivial⟩
   ·show xs.length-(i+1)<xs.length-i;omega
  ·have q3:(!(aU (agAt (dz b xs i) (i:Nat)).1))=false:=q2;rw[hat]at q3;have hlev:aU (agAt xs (i:Nat)).1=true:=by simpa using q3
   have hl2:=hlv i;have hw:IntKind.i64.wrap ((agAt xs (i:Nat)).2.1+b)=(agAt xs (i:Nat)).2.1+b:=IntWalk.i64_in _ (by omega)
   have hset:(dz b xs i).set i ((agAt (dz b xs i) (i:Nat)).1,IntKind.i64.wrap ((agAt (dz b xs i) (i:Nat)).2.1+b),(agAt (dz b xs i) (i:Nat)).2.2)=dz b xs (i+1):=by
    rw[uK hlt,hat,hw];unfold fH;rw[show aU (agAt xs (i:Nat)).kind=true from hlev];rfl
   have hlv2:(agAt ((dz b xs i).set i ((agAt (dz b xs i) (i:Nat)).1,IntKind.i64.wrap ((agAt (dz b xs i) (i:Nat)).2.1+b),(agAt (dz b xs i) (i:Nat)).2.2)) (i:Nat)).2.1=(agAt xs (i:Nat)).2.1+b:=by
    rw[ji,if_pos ⟨by simp,by rw[kM];exact hlt⟩,hat,hw]
   refine aI (fun q4=> ?_) (fun q4=> ?_)
   all_goals have q5:=q4
   all_goals replace q5:=(congrArg (fun z:Int=>decide ((8:Int)<z)) hlv2).symm.trans q5
   ·exfalso;have h1:=DZ hok (i+1);rw[j6 hlt,hlev]at h1;have q6:(8:Int)<(agAt xs (i:Nat)).2.1+b:=by simpa using q5
    simp at h1;omega
   ·have hle:(agAt xs (i:Nat)).2.1+b≤8:=by simpa using q5
    refine lp_next (i+1) ⟨hlt,?_⟩ ?_ ?_
    ·rw[j6 hlt,hi2,hlev];simpa using hle
    ·exact hd [] rfl (aI (aI (wrapS (by have:=h.1;omega)) rfl) (aI rfl trivial)) ⟨trivial,⟨rfl,trivial⟩,trivial,⟨rfl,trivial⟩,⟨hset,nP⟩,trivial⟩
    ·show xs.length-(i+1)<xs.length-i;omega
 ·have hge:xs.length≤i:=by
   have q2:decide (((i:Nat):Int)<((dz b xs 0).length:Nat))=false:=q1;rw[kM]at q2;simpa using q2
  have hie:i=xs.length:=by omega
  refine fin [(10000,20000)] (aI rfl ?_);refine⟨⟨?_,nP⟩,trivial⟩;show dz b xs i=aY b xs;rw[hie];unfold dz aY;simp
theorem F5(xs:List NAgent)(b:Int)(h:NetSmall xs)(hb:0≤b∧b≤8)(hlv:∀i:Nat,0≤(agAt xs i).2.1∧(agAt xs i).2.1≤8)(hok:dA b xs=false):FCall Tryz.prog 160 [.agg [.rsl uAgent xs],.int .i64 b] [] (.tup [.agg [.raw (.slice none 0 0)],.bool false]) []:=by
 refine FCall.intro (nt:=43) ti_ok mixed BU Tryz.func160 rfl rfl rfl rfl rfl rfl ?_;refine Or.inr (eI _ (eI _ (aI (vo xs h) ?_)));refine lp Nat (fun i=>[(14,.int .i64 (i:Nat)),(12,.sl 20000)]) (fun i=>[.cel 4 30 [.raw (.slice none 0 0)],.cel 6 30 [.sl 20000],.row 20000 131 5 uAgent (dz b xs i) []]) (fun i=>xs.length-i) (fun i=>i≤xs.length∧dA b (xs.take i)=true) 0 ⟨Nat.zero_le _,rfl⟩ ?_ ?_
 ·exact hd [(20000,10)] rfl (aI (aI rfl rfl) (aI rfl trivial)) ⟨trivial,⟨rfl,trivial⟩,trivial,⟨rfl,trivial⟩,⟨rfl,nP⟩,trivial⟩
 intro i ⟨hi,hi2⟩;refine aI (fun q1=> ?_) (fun q1=> ?_)
 ·have hlt:i<xs.length:=by simpa using q1
  refine aI ⟨by omega,by rw[kM];omega⟩ ?_;refine Or.inl (eI _ (aI (yG _) ?_));have hat:agAt (dz b xs i) (i:Nat)=agAt xs (i:Nat):=Ae hlt;refine aI (fun q2=> ?_) (fun q2=> ?_)
  ·have q3:(!(aU (agAt (dz b xs i) (i:Nat)).1))=true:=q2;rw[hat]at q3;have hlev:aU (agAt xs (i:Nat)).1=false:=by simpa using q3
   refine lp_next (i+1) ⟨hlt,?_⟩ ?_ ?_
   ·rw[j6 hlt,hi2,hlev];rfl
   ·exact hd [] rfl (aI (aI (wrapS (by have:=h.1;omega)) rfl) (aI rfl trivial)) ⟨trivial,⟨rfl,trivial⟩,trivial,⟨rfl,trivial⟩,⟨(Af hlt hlev).symm,nP⟩,trivial⟩
   ·show xs.length-(i+1)<xs.length-i;omega
  ·have q3:(!(aU (agAt (dz b xs i) (i:Nat)).1))=false:=q2;rw[hat]at q3;have hlev:aU (agAt xs (i:Nat)).1=true:=by simpa using q3
   have hl2:=hlv i;have hw:IntKind.i64.wrap ((agAt xs (i:Nat)).2.1+b)=(agAt xs (i:Nat)).2.1+b:=IntWalk.i64_in _ (by omega)
   have hset:(dz b xs i).set i ((agAt (dz b xs i) (i:Nat)).1,IntKind.i64.wrap ((agAt (dz b xs i) (i:Nat)).2.1+b),(agAt (dz b xs i) (i:Nat)).2.2)=dz b xs (i+1):=by
    rw[uK hlt,hat,hw];unfold fH;rw[show aU (agAt xs (i:Nat)).kind=true from hlev];rfl
   have hlv2:(agAt ((dz b xs i).set i ((agAt (dz b xs i) (i:Nat)).1,IntKind.i64.wrap ((agAt (dz b xs i) (i:Nat)).2.1+b),(agAt (dz b xs i) (i:Nat)).2.2)) (i:Nat)).2.1=(agAt xs (i:Nat)).2.1+b:=by
    rw[ji,if_pos ⟨by simp,by rw[kM];exact hlt⟩,hat,hw]
   refine aI (fun q4=> ?_) (fun q4=> ?_)
   all_goals have q5:=q4
   all_goals replace q5:=(congrArg (fun z:Int=>decide ((8:Int)<z)) hlv2).symm.trans q5
   ·refine fin [] (aI rfl trivial)
   ·have hle:(agAt xs (i:Nat)).2.1+b≤8:=by simpa using q5
    refine lp_next (i+1) ⟨hlt,?_⟩ ?_ ?_
    ·rw[j6 hlt,hi2,hlev];simpa using hle
    ·exact hd [] rfl (aI (aI (wrapS (by have:=h.1;omega)) rfl) (aI rfl trivial)) ⟨trivial,⟨rfl,trivial⟩,trivial,⟨rfl,trivial⟩,⟨hset,nP⟩,trivial⟩
    ·show xs.length-(i+1)<xs.length-i;omega
 ·have hge:xs.length≤i:=by
   have q2:decide (((i:Nat):Int)<((dz b xs 0).length:Nat))=false:=q1;rw[kM]at q2;simpa using q2
  have hie:i=xs.length:=by omega
  exfalso;rw[hie,List.take_length]at hi2;rw[hi2]at hok;cases hok
theorem Jw:callOk Tryz.prog 104=true:=by kernel_rfl
theorem uZ(xs:List NAgent)(p:Int×Int)(h1:0≤p.1∧p.1<(xs.length:Nat))(h2:0≤p.2∧p.2<(xs.length:Nat)):QCall Tryz.prog 59 [.rp uNet xs,vP p] (.tup [.int .i64 (aH (agAt xs p.1) (agAt xs p.2)).1,.bool (aH (agAt xs p.1) (agAt xs p.2)).2]):=Ll xs p h1 h2
theorem QN(xs:List NAgent)(bk:List (List NAgent))(m:Value)(p:Int×Int)(h1:0≤p.1∧p.1<(xs.length:Nat))(h2:0≤p.2∧p.2<(xs.length:Nat))(hb:Cr bk)(hs:∀i:Nat,NetSmall (aS bk i))
  (hx:(aH (agAt xs p.1) (agAt xs p.2)).1=7→0≤(agAt xs (bif (aH (agAt xs p.1) (agAt xs p.2)).2 then p.2 else p.1)).2.2.1∧0≤(agAt xs (bif (aH (agAt xs p.1) (agAt xs p.2)).2 then p.2 else p.1)).2.1∧(agAt xs (bif (aH (agAt xs p.1) (agAt xs p.2)).2 then p.2 else p.1)).2.1≤8):
  QCall Tryz.prog 104 [.rp TQ (xs,(bk,m)),vP p] (.tup [.int .i64 (checkN bk xs p).1,.int .i64 (checkN bk xs p).2.1,.int .i64 (checkN bk xs p).2.2.1,.int .i64 (checkN bk xs p).2.2.2]):=by
 refine QCall.intro (nt:=67) ti_ok mixed Jw Tryz.func104 rfl rfl rfl rfl rfl ?_;refine Or.inl (eI _ (aI (uZ xs p h1 h2) ?_));refine aI (by kernel_rfl) ?_;refine aI (by kernel_rfl) ?_;generalize hc:aH (agAt xs p.1) (agAt xs p.2)=c at*
 have hbk:∀x:Int,0≤x→(∀j:Nat,0≤(agAt (aS bk x) j).2.1∧(agAt (aS bk x) j).2.1≤8)∧NetSmall (aS bk x):=fun x h=>by
  have e:aS bk x=aS bk (x.toNat:Nat):=by unfold aS;exact IY (by omega)
  rw[e];exact⟨hb _,hs _⟩
 refine aI (fun q1=> ?_) (fun q1=> ?_)
 ·have q1':c.2=true:=q1;rw[q1']at hx;have hx7:c.1=7→0≤(agAt xs p.2).2.2.1∧0≤(agAt xs p.2).2.1∧(agAt xs p.2).2.1≤8:=hx;refine aI (fun q2=> ?_) (fun q2=> ?_)
  ·have q2':c.1=8:=by have q3:(c.1==8)=true:=q2;simpa using q3
   have e:checkN bk xs p=(0,0,0,11):=by simp[checkN,hc,q1',q2']
   rw[e];exact rfl
  have q2':c.1≠8:=by have q3:(c.1==8)=false:=q2;simpa using q3
  refine aI (fun q3=> ?_) (fun q3=> ?_)
  ·have q3':c.1=7:=by have q4:(c.1==7)=true:=q3;simpa using q4
   obtain⟨v0,l0,l1⟩:=hx7 q3';refine aI h2 ?_;refine aI (by kernel_rfl) ?_;refine aI (fun q4=> ?_) (fun q4=> ?_)
   ·have q4':(bk.length:Int)≤(agAt xs p.2).2.2.1:=by have q5:decide ((bk.length:Int)≤(agAt xs p.2).2.2.1)=true:=q4;simpa using q5
    have e:checkN bk xs p=(0,0,0,3):=by simp[checkN,hc,q1',q3',q4']
    rw[e];exact rfl
   have q4':(agAt xs p.2).2.2.1<(bk.length:Nat):=by have q5:decide ((bk.length:Int)≤(agAt xs p.2).2.2.1)=false:=q4;simpa using q5
   have q4n:¬((bk.length:Int)≤(agAt xs p.2).2.2.1):=by omega
   refine aI ⟨v0,q4'⟩ ?_;obtain⟨k1,k2⟩:=hbk _ v0;cases hso:dA (agAt xs p.2).2.1 (aS bk (agAt xs p.2).2.2.1)with
   |true=>
    refine Or.inr (eI _ (eI _ (aI (Ag (aS bk (agAt xs p.2).2.2.1) (agAt xs p.2).2.1 k2 ⟨l0,l1⟩ k1 hso) ?_)));refine aI (by kernel_rfl) ?_;refine aI (fun q5=>by cases q5) (fun q5=> ?_);have e:checkN bk xs p=(c.1,p.2,p.1,0):=by simp[checkN,hc,q1',q3',q4n,hso]
    rw[e];exact rfl
   |false=>
    refine Or.inr (eI _ (eI _ (aI (F5 (aS bk (agAt xs p.2).2.2.1) (agAt xs p.2).2.1 k2 ⟨l0,l1⟩ k1 hso) ?_)));refine aI (by kernel_rfl) ?_;refine aI (fun q5=> ?_) (fun q5=>by cases q5);have e:checkN bk xs p=(0,0,0,9):=by simp[checkN,hc,q1',q3',q4n,hso]
    rw[e];exact rfl
  ·have q3':c.1≠7:=by have q4:(c.1==7)=false:=q3;simpa using q4
   have e:checkN bk xs p=(c.1,p.2,p.1,0):=by have b2:(c.1==8)=false:=q2;have b3:(c.1==7)=false:=q3;simp only[checkN,hc,q1',b2,b3,cond_true,cond_false]
   rw[e];exact rfl
 ·have q1':c.2=false:=q1;rw[q1']at hx;have hx7:c.1=7→0≤(agAt xs p.1).2.2.1∧0≤(agAt xs p.1).2.1∧(agAt xs p.1).2.1≤8:=hx;refine aI (fun q2=> ?_) (fun q2=> ?_)
  ·have q2':c.1=8:=by have q3:(c.1==8)=true:=q2;simpa using q3
   have e:checkN bk xs p=(0,0,0,11):=by simp[checkN,hc,q1',q2']
   rw[e];exact rfl
  have q2':c.1≠8:=by have q3:(c.1==8)=false:=q2;simpa using q3
  refine aI (fun q3=> ?_) (fun q3=> ?_)
  ·have q3':c.1=7:=by have q4:(c.1==7)=true:=q3;simpa using q4
   obtain⟨v0,l0,l1⟩:=hx7 q3';refine aI h1 ?_;refine aI (by kernel_rfl) ?_;refine aI (fun q4=> ?_) (fun q4=> ?_)
   ·have q4':(bk.length:Int)≤(agAt xs p.1).2.2.1:=by have q5:decide ((bk.length:Int)≤(agAt xs p.1).2.2.1)=true:=q4;simpa using q5
    have e:checkN bk xs p=(0,0,0,3):=by simp[checkN,hc,q1',q3',q4']
    rw[e];exact rfl
   have q4':(agAt xs p.1).2.2.1<(bk.length:Nat):=by have q5:decide ((bk.length:Int)≤(agAt xs p.1).2.2.1)=false:=q4;simpa using q5
   have q4n:¬((bk.length:Int)≤(agAt xs p.1).2.2.1):=by omega
   refine aI ⟨v0,q4'⟩ ?_;obtain⟨k1,k2⟩:=hbk _ v0;cases hso:dA (agAt xs p.1).2.1 (aS bk (agAt xs p.1).2.2.1)with
   |true=>
    refine Or.inr (eI _ (eI _ (aI (Ag (aS bk (agAt xs p.1).2.2.1) (agAt xs p.1).2.1 k2 ⟨l0,l1⟩ k1 hso) ?_)));refine aI (by kernel_rfl) ?_;refine aI (fun q5=>by cases q5) (fun q5=> ?_);have e:checkN bk xs p=(c.1,p.1,p.2,0):=by simp[checkN,hc,q1',q3',q4n,hso]
    rw[e];exact rfl
   |false=>
    refine Or.inr (eI _ (eI _ (aI (F5 (aS bk (agAt xs p.1).2.2.1) (agAt xs p.1).2.1 k2 ⟨l0,l1⟩ k1 hso) ?_)));refine aI (by kernel_rfl) ?_;refine aI (fun q5=> ?_) (fun q5=>by cases q5);have e:checkN bk xs p=(0,0,0,9):=by simp[checkN,hc,q1',q3',q4n,hso]
    rw[e];exact rfl
  ·have q3':c.1≠7:=by have q4:(c.1==7)=false:=q3;simpa using q4
   have e:checkN bk xs p=(c.1,p.1,p.2,0):=by have b2:(c.1==8)=false:=q2;have b3:(c.1==7)=false:=q3;simp only[checkN,hc,q1',b2,b3,cond_true,cond_false]
   rw[e];exact rfl
theorem MP:callOk Tryz.prog 106=true:=by kernel_rfl
theorem SK(xs:List NAgent)(bk:List (List NAgent))(m:Value)(c x y:Int)(hx:0≤x∧x<(xs.length:Nat))(hy:0≤y∧y<(xs.length:Nat))(h7:c=7→0≤(agAt xs x).2.2.1∧(agAt xs x).2.2.1<(bk.length:Nat)):
  QCall Tryz.prog 106 [.rp TQ (xs,(bk,m)),.int .i64 c,.int .i64 x,.int .i64 y] (.int .i64 (ou bk xs c x y)):=by
 refine QCall.intro (nt:=76) ti_ok mixed MP Tryz.func106 rfl rfl rfl rfl rfl ?_;refine aI (fun q1=> ?_) (fun q1=> ?_)
 ·refine aI (fun _=> ?_) (fun h=>by rw[show(c==3)=true from q1]at h;cases h);refine aI hy ?_;refine Or.inl (eI _ (aI (sH _ _) ?_));refine⟨?_,rfl⟩;simp only[ou,q1,cond_true];rfl
 refine aI (fun q2=> ?_) (fun q2=> ?_)
 ·refine aI hy ?_;refine Or.inl (eI _ (aI (sH _ _) ?_));refine⟨?_,rfl⟩;simp only[ou,q1,q2,cond_true,cond_false];rfl
 refine aI (fun q3=> ?_) (fun q3=> ?_)
 ·refine aI hx ?_;refine aI (fun q4=> ?_) (fun q4=> ?_)
  ·refine aI hx ?_;refine Or.inl (eI _ (aI (sH _ _) ?_));refine⟨?_,rfl⟩;have q4':((agAt xs x).1==9)=true:=q4;simp only[ou,q1,q2,q3,q4',cond_true,cond_false];rfl
  ·refine Or.inl (eI _ (aI (sH _ _) ?_));refine⟨?_,rfl⟩;have q4':((agAt xs x).1==9)=false:=q4;simp only[ou,q1,q2,q3,q4',cond_true,cond_false]
 refine aI (fun q4=> ?_) (fun q4=> ?_)
 ·have q4':c=7:=by have q5:(c==7)=true:=q4;simpa using q5
  refine aI hx ?_;refine aI (h7 q4') ?_;refine aI (by kernel_rfl) ?_;refine Or.inl (eI _ (aI (sH _ _) ?_));refine⟨?_,rfl⟩;simp only[ou,q1,q2,q3,q4,cond_true,cond_false];rfl
 ·refine Or.inl (eI _ (aI (sH _ _) ?_));refine⟨?_,rfl⟩;simp only[ou,q1,q2,q3,q4,cond_true,cond_false]
theorem MN:callOk Tryz.prog 113=true:=by kernel_rfl
def Kk(g:Nat)(bk:List (List NAgent))(kv:List (Int×Bool))(q:NPort)(l:List Tok):List Tok:=.cel 10000 87 [.sl g,.rsl uNet bk,.mp 10002]:: .map 10002 .bool kv:: .cel 6 30 [.sl 38]:: .cel 9 102 [.int .i64 q.1,.int .i64 q.2]::l
def Ua(g:Nat)(xs:List NAgent)(us:List Value)(hs:List (El (hol 5)))(ys:List NAgent)(usB:List Value):List Tok:=[.row g 131 5 (hol 5) (jm xs.length us++hs) us,.nest 20001 uAgent xs us,.row 38 131 5 uAgent ys usB]
def UO(b:Int)(t xs:List NAgent)(us:List Value)(bk:List (List NAgent))(kv:List (Int×Bool))(q:NPort)(s:Nat×List Value):List Tok:=match s.1 with
 |0=>Kk 20000 bk kv q [.row 20000 131 5 uAgent xs us,.row 38 131 5 uAgent t []]
 |k+1=>Kk 20000 bk kv q (Ua 20000 xs us (GD t s.2 (k+1)) (oM b t (k+1)) s.2)
def UN(b:Int)(t xs:List NAgent)(us:List Value)(bk:List (List NAgent))(kv:List (Int×Bool))(q:NPort)(s:Nat×List Value)(K:List Tok→Prop):Prop:=
 (s.1+1<t.length→∀usB:List Value,(s.1=0→usB.length=t.length*5)→(s.1≠0→usB=s.2)→K (Kk 20000 bk kv q (Ua 20000 xs us (GD t usB s.1) (oM b t s.1) usB)))∧
 (t.length≤s.1+1→(t.length=s.1+1∧s.2.length=t.length*5)∧K (Kk 20000 bk kv q [.row 20000 131 5 uAgent (xs++(oM b t s.1).drop 1) us]))
theorem vE{β:Nat→Value}{cx:Cx}{g:Nat}{bk:List (List NAgent)}{kv:List (Int×Bool)}{q:NPort}{l:List Tok}{R:List dx}:(((Kk g bk kv q l).map (Tok.res cx β))++R).Perm (l.map (Tok.res cx β)++((Kk g bk kv q []).map (Tok.res cx β)++R)):=by
 have:((Kk g bk kv q []).map (Tok.res cx β)++(l.map (Tok.res cx β)++R)).Perm (l.map (Tok.res cx β)++((Kk g bk kv q []).map (Tok.res cx β)++R)):=by
  rw[←List.append_assoc,←List.append_assoc];exact List.Perm.append_right _ List.perm_append_comm
 exact this
theorem SI{b:Int}{t xs:List NAgent}{us:List Value}{bk:List (List NAgent)}{kv:List (Int×Bool)}{q:NPort}(hl:us.length=xs.length*5)(h2:2≤t.length)(s:Nat×List Value)(K:List Tok→Prop)(cx:Cx)(β:Nat→Value)(w:World)(R:List dx)
  (h:UN b t xs us bk kv q s K) (hI:Inv cx.w0 cx.F0 w ((UO b t xs us bk kv q s).map (Tok.res cx β)++R)):∃rs',K rs'∧Inv cx.w0 cx.F0 w (rs'.map (Tok.res cx β)++R):=by
 obtain⟨k,usB⟩:=s
 match k with
 |0=>
  have h1:=h.1 (by show 0+1<t.length;omega);have hI1:=hI.perm vE;have hI2:Inv cx.w0 cx.F0 w (Tok.res cx β (.row 20000 131 5 uAgent xs us)::(Tok.res cx β (.row 38 131 5 uAgent t [])::((Kk 20000 bk kv q []).map (Tok.res cx β)++R))):=hI1;have hI3:=Inv.Rb (n:=20001) hI2 hl;have hI4:=hI3.perm ((List.Perm.cons _ (List.Perm.swap _ _ _)).trans (List.Perm.swap _ _ _));obtain⟨F,⟨hus,bs,raw,e,hg,hpre⟩,k2,_⟩:=Inv.take1 (r:=Tok.res cx β (.row 38 131 5 uAgent t [])) hI4;have hI5:Inv cx.w0 cx.F0 w (Tok.res cx β (.row 38 131 5 uAgent t raw)::_):=k2 _ F (fun _ h=>h) ⟨hus,bs,raw,e,hg,pR _⟩
  have hI6:=hI5.perm ((List.Perm.swap _ _ _).trans (List.Perm.cons _ (List.Perm.swap _ _ _)));refine⟨_,h1 raw (fun _=>hg.row.1) (fun h=>absurd rfl h),Inv.perm (rs:=(Ua 20000 xs us (GD t raw 0) (oM b t 0) raw).map (Tok.res cx β)++((Kk 20000 bk kv q []).map (Tok.res cx β)++R)) ?_ vE.symm⟩;show Inv cx.w0 cx.F0 w (Tok.res cx β (.row 20000 131 5 (hol 5) (jm xs.length us++[]) us)::(Tok.res cx β (.nest 20001 uAgent xs us)::(Tok.res cx β (.row 38 131 5 uAgent t raw)::((Kk 20000 bk kv q []).map (Tok.res cx β)++R))));rw[List.append_nil];exact hI6
 |k+1=>
  by_cases hk:k+1+1<t.length
  ·exact⟨_,h.1 hk usB (fun e=>by cases e) (fun _=>rfl),hI⟩
  ·obtain⟨⟨hk2,h3⟩,h4⟩:=h.2 (by show t.length≤k+1+1;omega);have hm:(oM b t (k+1)).length=t.length:=ow _;have hk3:t.length=k+1+1:=hk2;have hI2:Inv cx.w0 cx.F0 w (Tok.res cx β (.row 20000 131 5 (hol 5) (jm xs.length us++GD t usB (k+1)) us)::(Tok.res cx β (.nest 20001 uAgent xs us)::(Tok.res cx β (.row 38 131 5 uAgent (oM b t (k+1)) usB)::((Kk 20000 bk kv q []).map (Tok.res cx β)++R)))):=hI.perm vE;have hI3:=Inv.merge hI2 hl (by rw[hm];exact h3) (by omega) (by rw[hm,hk3];exact OG _);exact⟨_,h4,Inv.perm hI3 (vE (l:=[.row 20000 131 5 uAgent (xs++(oM b t (k+1)).drop 1) us])).symm⟩
theorem Ur(t0:List NAgent)(xs:List NAgent)(us:List Value)(bk:List (List NAgent))(kv:List (Int×Bool))(x y:Int)(hx:0≤x∧x<(xs.length:Nat))(hv:0≤(agAt xs x).2.2.1∧(agAt xs x).2.2.1<(bk.length:Nat))(ht0:aS bk (agAt xs x).2.2.1=t0)(hl:xs.length≤900000)(hs:NetSmall t0)(ht:2≤t0.length)(htl:t0.length≤1000)(hr:PortIn t0 (0,0))(hlv:0≤(agAt xs x).2.1∧(agAt xs x).2.1≤8)(hlt8:∀i:Nat,0≤(agAt t0 i).2.1∧(agAt t0 i).2.1≤8)
  (hok:dA (agAt xs x).2.1 t0=true) (hpt:∀i j:Nat,oN (elt (dflt uPort) (agAt (aY (agAt xs x).2.1 t0) (i:Nat)).2.2.2.2 (j:Nat)).1) (hps:∀i:Nat,(agAt (aY (agAt xs x).2.1 t0) (i:Nat)).2.2.2.2.length≤1048576) (hr2:PortIn (aY (agAt xs x).2.1 t0) (0,0))
  (hy:PortIn (xs++((jM bk xs x).drop 1).map (bg ((xs.length:Nat)-1))) (y,0)) (htop:PortIn (xs++((jM bk xs x).drop 1).map (bg ((xs.length:Nat)-1))) ((peerN (jM bk xs x) (0,0)).1+((xs.length:Nat)-1),(peerN (jM bk xs x) (0,0)).2)):
  FCall Tryz.prog 113 [.ptr 10000 0,.int .i64 x,.int .i64 y] (tW xs us bk kv) (.tup []) (KW 10003 (jV bk xs x y) us bk kv):=by
 refine FCall.gH 10001 MN ?_;refine aI (fun _ us' hpre hlen=> ?_) (fun h=>absurd rfl h);have hT:jM bk xs x=aY (agAt xs x).2.1 t0:=by unfold jM;rw[ht0]
 have hq:FCall Tryz.prog 128 [.ptr 10000 0,vP (0,0)] [.cel 10000 30 [.sl 10001],.row 10001 131 5 uAgent (aY (agAt xs x).2.1 t0) []] (vP (peerN (aY (agAt xs x).2.1 t0) (0,0))) [.cel 10000 30 [.sl 10001],.row 10001 131 5 uAgent (aY (agAt xs x).2.1 t0) []]:=
  FCall.of_q ti_ok [61,0] G7 (peerI _ _ hr2) rfl
 rw[hT]at hy htop;have hsh:=Ag t0 (agAt xs x).2.1 hs hlv hlt8 hok;generalize hte:aY (agAt xs x).2.1 t0=t at*;have htn:t.length=t0.length:=by rw[←hte];unfold aY;simp
 generalize hqe:peerN t (0,0)=q at*;refine FCall.intro (nt:=101) ti_ok mixed MN Tryz.func113 rfl rfl rfl rfl rfl rfl ?_;refine aI hx ?_;refine aI hv ?_;refine aI hx ?_;have hsh2:FCall Tryz.prog 160 [.agg [.rsl uAgent (aS bk (agAt xs x).2.2.1)],.int .i64 (agAt xs x).2.1] [] (.tup [.agg [.sl 10000],.bool true]) [.row 10000 131 5 uAgent t []]:=by rw[ht0];exact hsh
 refine Or.inr (eI _ (eI _ (aI hsh2 ?_)));refine aI (by kernel_rfl) ?_;refine Or.inr (eI _ (eI _ (aI hq ?_)));refine aI (show(0:Int)≤1∧(1:Int)<(t.length:Nat) by omega) ?_;have hwb:IntKind.i64.wrap ((xs.length:Nat)-1)=((xs.length:Nat)-1:Int):=IntWalk.i64_in _ (by omega);generalize hbe:((xs.length:Nat)-1:Int)=b at*;refine lpG (Nat×List Value) (fun s=>[(54,.int .i64 (s.1:Nat)),(8,.int .i64 b)]) (UO b t xs us' bk kv q) (fun s=>t.length-s.1) (fun s=>s.1+1≤t.length∧(s.1≠0→s.2.length=t.length*5)) (0,[]) (UN b t xs us' bk kv q) (SI hlen (by omega)) ⟨by show 0+1≤_;omega,fun h=>absurd rfl h⟩ ?_ ?_
 ·exact hd [(20000,10001)] rfl (aI (aI rfl rfl) (aI (aI hwb rfl) trivial)) ⟨trivial,⟨rfl,rfl,rfl,trivial⟩,rfl,trivial,⟨rfl,trivial⟩,trivial,⟨⟨rfl,rfl⟩,⟨rfl,rfl⟩,trivial⟩,⟨rfl,pR _⟩,⟨rfl,nP⟩,trivial⟩
 intro s ⟨hs1,hs2⟩;refine aI (fun hlt usB hB0 hB1=> ?_) (fun hge=>aI ?_ ?_)
 ·have hB:usB.length=t.length*5:=by
   by_cases h:s.1=0
   ·exact hB0 h
   ·rw[hB1 h];exact hs2 h
  obtain⟨k,usS⟩:=s;refine aI (fun q1=> ?_) (fun q1=> ?_)
  ·have hlt':k+1<t.length:=hlt;have hi0:(0:Int)≤((1+k:Nat):Int):=by omega
   have hi1:((1+k:Nat):Int)<((oM b t k).length:Nat):=by rw[ow];omega
   have hBm:usB.length=(oM b t k).length*5:=by rw[ow];exact hB
   refine aI (show(0:Int)≤(k:Nat)∧((k:Nat):Int)<((t.length-1:Nat):Int) by omega) ?_;refine aI (oG hBm hi0 hi1) ?_;refine lp Nat (fun j=>[(61,.int .i64 (j:Nat))]) (fun j=>.cel 11 131 [.int .i64 (agAt (oM b t k) ((1+k:Nat):Int)).1,.int .i64 (agAt (oM b t k) ((1+k:Nat):Int)).2.1,.int .i64 (agAt (oM b t k) ((1+k:Nat):Int)).2.2.1,.nh ((1+k:Nat):Int) 3 (agAt (oM b t k) ((1+k:Nat):Int)).2.2.2.1.length (usB.getD ((1+k)*5+3) undef),.nh ((1+k:Nat):Int) 4 (agAt (oM b t k) ((1+k:Nat):Int)).2.2.2.2.length (usB.getD ((1+k)*5+4) undef)]::Kk 21000 bk kv q (Ua 21000 xs us' (GD t usB k) (zB b t k j) usB)) (fun j=>(agAt t ((1+k:Nat):Int)).2.2.2.2.length-j) (fun j=>j≤(agAt t ((1+k:Nat):Int)).2.2.2.2.length) 0 (Nat.zero_le _) ?_ ?_
   ·exact hd [(21000,20000)] rfl (aI (aI rfl rfl) trivial) ⟨trivial,⟨⟨rfl,rfl⟩,⟨rfl,rfl⟩,⟨rfl,rfl⟩,rfl,rfl,trivial⟩,trivial,⟨rfl,rfl,rfl,trivial⟩,rfl,trivial,⟨rfl,trivial⟩,trivial,⟨⟨rfl,rfl⟩,⟨rfl,rfl⟩,trivial⟩,⟨rfl,pR _⟩,⟨rfl,rfl⟩,⟨(Mx k).symm,pR _⟩,trivial⟩
   intro j hj;have hae:agAt (oM b t k) ((1+k:Nat):Int)=agAt t ((1+k:Nat):Int):=Rl (by omega);have hi2:((1+k:Nat):Int)<((zB b t k j).length:Nat):=by rw[Jo];omega
   have hBm2:usB.length=(zB b t k j).length*5:=by rw[Jo];exact hB
   refine aI (fun q3=> ?_) (fun q3=> ?_)
   ·have hlt2:j<(agAt t ((1+k:Nat):Int)).2.2.2.2.length:=by
     have q4:decide (((j:Nat):Int)<((agAt (oM b t k) ((1+k:Nat):Int)).2.2.2.2.length:Nat))=true:=q3;rw[hae]at q4;simpa using q4
    have hbnd:(0:Int)≤(j:Nat)∧((j:Nat):Int)<((agAt (oM b t k) ((1+k:Nat):Int)).2.2.2.2.length:Nat):=by rw[hae];omega
    have hnp:vW (zB b t k j) usB ((1+k:Nat):Int) 5 4 (usB.getD ((1+k)*5+4) undef):=⟨hi0,hi2,nU hBm2 hi0 hi2 (by decide)⟩;have hpv:oN (elt (dflt uPort) (agAt t ((1+k:Nat):Int)).2.2.2.2 (j:Nat)).1:=hpt (1+k) j;unfold oN at hpv;have hpl:=hps (1+k)
    have hw:IntKind.i64.wrap ((elt (dflt uPort) (agAt (zB b t k j) ((1+k:Nat):Int)).2.2.2.2 (j:Nat)).1+b)=(elt (dflt uPort) (agAt t ((1+k:Nat):Int)).2.2.2.2 (j:Nat)).1+b:=by
     rw[Rk (by omega) hlt2];exact IntWalk.i64_in _ (by omega)
    refine aI hbnd ?_;refine eI 38 (aI ⟨hnp,hbnd⟩ ?_);refine aI hbnd ?_;refine eI 38 (aI ⟨hnp,hbnd⟩ ?_);refine lp_next (j+1) hlt2 ?_ ?_
    ·refine hd [] rfl (aI (aI (wrapS (by omega)) rfl) trivial) ⟨trivial,⟨⟨rfl,rfl⟩,⟨rfl,rfl⟩,⟨rfl,rfl⟩,rfl,rfl,trivial⟩,trivial,⟨rfl,rfl,rfl,trivial⟩,rfl,trivial,⟨rfl,trivial⟩,trivial,⟨⟨rfl,rfl⟩,⟨rfl,rfl⟩,trivial⟩,⟨rfl,pR _⟩,⟨rfl,rfl⟩,⟨Mw (by omega) hlt2 hw,pR _⟩,trivial⟩
    ·show(agAt t ((1+k:Nat):Int)).2.2.2.2.length-(j+1)<(agAt t ((1+k:Nat):Int)).2.2.2.2.length-j;omega
   have hje:j=(agAt t ((1+k:Nat):Int)).2.2.2.2.length:=by
    have q4:decide (((j:Nat):Int)<((agAt (oM b t k) ((1+k:Nat):Int)).2.2.2.2.length:Nat))=false:=q3;rw[hae]at q4;have q5:(agAt t ((1+k:Nat):Int)).2.2.2.2.length≤j:=by simpa using q4
    omega
   refine aI (show(jm xs.length us'++GD t usB k).length+1≤_ by rw[List.length_append,sS,OH];omega) ?_;refine aI (by kernel_rfl) ?_;refine Mr (k+1,usB) ⟨by show k+1+1≤t.length;omega,fun _=>hB⟩ ?_ ?_
   ·refine hd [(20000,83)] rfl (aI (aI (wrapS (by omega)) rfl) (aI (aI rfl rfl) trivial)) ⟨trivial,⟨rfl,rfl,rfl,trivial⟩,rfl,trivial,⟨rfl,trivial⟩,trivial,⟨⟨rfl,rfl⟩,⟨rfl,rfl⟩,trivial⟩,⟨?_,pR _⟩,⟨rfl,rfl⟩,⟨?_,pR _⟩,trivial⟩
    ·show(jm xs.length us'++GD t usB k)++([(Value.int .i64 (agAt (oM b t k) ((1+k:Nat):Int)).1,Value.int .i64 (agAt (oM b t k) ((1+k:Nat):Int)).2.1,Value.int .i64 (agAt (oM b t k) ((1+k:Nat):Int)).2.2.1,usB.getD ((1+k)*5+3) undef,usB.getD ((1+k)*5+4) undef)]:List (El (hol 5)))=jm xs.length us'++GD t usB (k+1);rw[LM,List.append_assoc,hae];rfl
    ·show zB b t k j=oM b t (k+1);rw[hje,OZ]
   ·show t.length-(k+1)<t.length-k;omega
  ·exfalso;have q2:decide (((k:Nat):Int)<((t.length-1:Nat):Int))=false:=q1;have q3:((t.length-1:Nat):Int)≤((k:Nat):Int):=by simpa using q2
   have hlt':k+1<t.length:=hlt;omega
 ·have h1:t.length≤s.1+1:=hge;exact⟨by omega,hs2 (by omega)⟩
 refine aI (fun q1=> ?_) (fun q1=> ?_)
 ·exfalso;have q2:decide (((s.1:Nat):Int)<((t.length-1:Nat):Int))=true:=q1;have q3:((s.1:Nat):Int)<((t.length-1:Nat):Int):=by simpa using q2
  have h1:t.length≤s.1+1:=hge;omega
 have h1:t.length≤s.1+1:=hge;have hse:s.1=t.length-1:=by omega
 have hdr:(oM b t s.1).drop 1=(t.drop 1).map (bg b):=by rw[hse];exact MC
 have hw:IntKind.i64.wrap (q.1+b)=q.1+b:=IntWalk.i64_in _ (by
  have:=htop.1;have h2:=htop.2.1;simp only[List.length_append,List.length_map,List.length_drop]at h2;omega)
 rw[←hdr]at hy htop;have hlk:=BL (xs++(oM b t s.1).drop 1) us' bk kv (y,0) (q.1+b,q.2) hy htop;rw[←hw]at hlk;refine Or.inr (eI _ (eI _ (aI hlk ?_)));refine aI (by kernel_rfl) ?_;refine fin [(10003,20000)] (aI rfl ?_);refine⟨trivial,⟨rfl,rfl,rfl,trivial⟩,⟨?_,hpre⟩,rfl,trivial⟩;show aR (xs++(oM b t s.1).drop 1) (y,0) (IntKind.i64.wrap (q.1+b),q.2)=jV bk xs x y;unfold jV;rw[hw,hT,hdr,hqe,hbe]
theorem Cq(x:Int):QCall Tryz.prog 192 [.int .i64 x] (.int .i64 (kg x)):=by
 refine QCall.intro (nt:=6) ti_ok mixed (by kernel_rfl) Tryz.func192 rfl rfl rfl rfl rfl ?_;exact⟨rfl,rfl⟩
theorem xJ(x:Int):QCall Tryz.prog 199 [.int .i64 x] (.int .i64 (kg x)):=by
 refine QCall.intro (nt:=8) ti_ok mixed (by kernel_rfl) Tryz.func199 rfl rfl rfl rfl rfl ?_;exact⟨KZ x,rfl⟩
theorem Il(b:Bool):QCall Tryz.prog 165 [.bool b] (.int .i64 (bif b then 1 else 0)):=by
 refine QCall.intro (nt:=4) ti_ok mixed (by kernel_rfl) Tryz.func165 rfl rfl rfl rfl rfl ?_;refine aI (fun h=> ?_) (fun h=> ?_)
 ·subst h;exact⟨rfl,rfl⟩
 ·subst h;exact⟨rfl,rfl⟩
theorem Qc(b:Bool):QCall Tryz.prog 200 [.bool b] (.int .i64 (bif b then 1 else 0)):=by
 refine QCall.intro (nt:=4) ti_ok mixed (by kernel_rfl) Tryz.func200 rfl rfl rfl rfl rfl ?_;refine aI (fun h=> ?_) (fun h=> ?_)
 ·subst h;exact⟨rfl,rfl⟩
 ·subst h;exact⟨rfl,rfl⟩
theorem MZ(o a b:Int):QCall Tryz.prog 164 [.int .i64 o,.int .i64 a,.int .i64 b] (.int .i64 (rQ o a b)):=by
 refine QCall.intro (nt:=52) ti_ok mixed (by kernel_rfl) Tryz.func164 rfl rfl rfl rfl rfl ?_;refine Or.inl (eI _ (aI (Cq a) ?_));refine Or.inl (eI _ (aI (Cq b) ?_));refine aI (fun h1=> ?_) (fun h1=> ?_)
 ·refine Or.inl (eI _ (aI (Cq _) ?_));refine⟨?_,rfl⟩;simp only[rQ,h1,cond_true]
 refine aI (fun h2=> ?_) (fun h2=> ?_)
 ·refine Or.inl (eI _ (aI (Cq _) ?_));refine⟨?_,rfl⟩;simp only[rQ,h1,h2,cond_true,cond_false]
 refine aI (fun h3=> ?_) (fun h3=> ?_)
 ·refine Or.inl (eI _ (aI (Cq _) ?_));refine⟨?_,rfl⟩;simp only[rQ,h1,h2,h3,cond_true,cond_false]
 refine aI (fun h4=> ?_) (fun h4=> ?_)
 ·refine aI (fun h5=> ?_) (fun h5=> ?_)
  ·refine⟨?_,rfl⟩;simp only[rQ,h1,h2,h3,h4,h5,cond_true,cond_false]
  ·refine aI (by simpa using h5) ?_;refine Or.inl (eI _ (aI (Cq _) ?_));refine⟨?_,rfl⟩;simp only[rQ,h1,h2,h3,h4,h5,cond_true,cond_false]
 refine aI (fun h5=> ?_) (fun h5=> ?_)
 ·refine Or.inl (eI _ (aI (Il _) ?_));refine⟨?_,rfl⟩;simp only[rQ,h1,h2,h3,h4,h5,cond_true,cond_false]
 refine aI (fun h6=> ?_) (fun h6=> ?_)
 ·refine Or.inl (eI _ (aI (Il _) ?_));refine⟨?_,rfl⟩;simp only[rQ,h1,h2,h3,h4,h5,h6,cond_true,cond_false]
 ·refine⟨?_,rfl⟩;simp only[rQ,h1,h2,h3,h4,h5,h6,cond_true,cond_false]
theorem FJ(o a b:Int):QCall Tryz.prog 179 [.int .i64 o,.int .i64 a,.int .i64 b] (.int .i64 (rQ o a b)):=by
 refine QCall.intro (nt:=52) ti_ok mixed (by kernel_rfl) Tryz.func179 rfl rfl rfl rfl rfl ?_;refine Or.inl (eI _ (aI (xJ a) ?_));refine Or.inl (eI _ (aI (xJ b) ?_));refine aI (fun h1=> ?_) (fun h1=> ?_)
 ·refine Or.inl (eI _ (aI (xJ _) ?_));refine⟨?_,rfl⟩;simp only[rQ,h1,cond_true]
 refine aI (fun h2=> ?_) (fun h2=> ?_)
 ·refine Or.inl (eI _ (aI (xJ _) ?_));refine⟨?_,rfl⟩;simp only[rQ,h1,h2,cond_true,cond_false]
 refine aI (fun h3=> ?_) (fun h3=> ?_)
 ·refine Or.inl (eI _ (aI (xJ _) ?_));refine⟨?_,rfl⟩;simp only[rQ,h1,h2,h3,cond_true,cond_false]
 refine aI (fun h4=> ?_) (fun h4=> ?_)
 ·refine aI (fun h5=> ?_) (fun h5=> ?_)
  ·refine⟨?_,rfl⟩;simp only[rQ,h1,h2,h3,h4,h5,cond_true,cond_false]
  ·refine aI (by simpa using h5) ?_;refine Or.inl (eI _ (aI (xJ _) ?_));refine⟨?_,rfl⟩;simp only[rQ,h1,h2,h3,h4,h5,cond_true,cond_false]
 refine aI (fun h5=> ?_) (fun h5=> ?_)
 ·refine Or.inl (eI _ (aI (Qc _) ?_));refine⟨?_,rfl⟩;simp only[rQ,h1,h2,h3,h4,h5,cond_true,cond_false]
 refine aI (fun h6=> ?_) (fun h6=> ?_)
 ·refine Or.inl (eI _ (aI (Qc _) ?_));refine⟨?_,rfl⟩;simp only[rQ,h1,h2,h3,h4,h5,h6,cond_true,cond_false]
 ·refine⟨?_,rfl⟩;simp only[rQ,h1,h2,h3,h4,h5,h6,cond_true,cond_false]
theorem oI(xs:List NAgent)(us:List Value)(bk:List (El uNet))(kv:List (Int×Bool)):FCall Tryz.prog 105 [.ptr 10000 0] (tW xs us bk kv) (.int .i64 (IntKind.i64.wrap ((xs.length:Nat)-(kv.length:Nat)))) (tW xs us bk kv):=by
 refine FCall.intro (nt:=15) ti_ok mixed (by kernel_rfl) Tryz.func105 rfl rfl rfl rfl rfl rfl ?_;refine aI (by kernel_rfl) ?_;refine fin [] (aI ⟨rfl,rfl⟩ ?_);exact⟨trivial,⟨rfl,rfl,rfl,trivial⟩,⟨rfl,pR _⟩,rfl,trivial⟩
theorem tX(g:Nat)(xs:List NAgent)(us:List Value)(bk:List (El uNet))(kv:List (Int×Bool))(p q:NPort)(h:AllIn xs)(hp:PortIn xs p)(hq:PortIn xs q):FCall Tryz.prog 109 [.ptr 10000 0,vP p,vP q] (tW xs us bk kv) (.tup []) (tW (bG xs p q) us bk kv):=TB xs us bk kv p q hp (h p hp) hq
theorem MR:callOk Tryz.prog 111=true:=by kernel_rfl
theorem Te(xs:List NAgent)(us:List Value)(bk:List (El uNet))(kv:List (Int×Bool))(x y:Int)(hA:AllIn xs)(h0:PortIn xs (0,0))(hl:xs.length≤900000)(hx:0≤x∧x<(xs.length:Nat))(h1:PortIn xs (y,1))(h2:(agAt xs y).1=7→PortIn xs (y,2))(h3:(agAt xs y).1≠7→0<(agAt xs y).2.2.2.1.length):
  FCall Tryz.prog 111 [.ptr 10000 0,.int .i64 x,.int .i64 y] (tW xs us bk kv) (.tup []) (KW 10003 (aM xs x y) us bk kv):=by
 have hy:0≤y∧y<(xs.length:Nat):=⟨h1.1,h1.2.1⟩;refine FCall.expose MR ?_;intro us' hpre hlen;refine FCall.intro (nt:=64) ti_ok mixed MR Tryz.func111 rfl rfl rfl rfl rfl rfl ?_;refine aI hx ?_;refine aI hy ?_;refine aI (oG hlen hy.1 hy.2) ?_;refine aI (by kernel_rfl) ?_;refine aI (fun q1=> ?_) (fun q1=> ?_)
 ·have q1':(agAt xs y).1=7:=by have q2:((agAt xs y).1==7)=true:=q1;simpa using q2
  refine Or.inr (eI _ (eI _ (aI (QJ xs us' bk kv 8 (agAt xs y).2.1 (agAt xs y).2.2.1 2 [(agAt xs x).2.2.1] (by omega) (by omega) (by simp)) ?_)));have hA1:=hA.add h0 8 (agAt xs y).2.1 (agAt xs y).2.2.1 [(agAt xs x).2.2.1] 2;refine Or.inr (eI _ (eI _ (aI (tX 0 (xs++[aJ 8 (agAt xs y).2.1 (agAt xs y).2.2.1 [(agAt xs x).2.2.1] 2]) us' bk kv (y,1) ((xs.length:Nat),0) hA1 h1.app (PortIn.new (by decide) (by decide))) ?_)));refine Or.inr (eI _ (eI _ (aI (tX 0 _ us' bk kv (y,2) ((xs.length:Nat),1) (hA1.move h1.app (PortIn.new (by decide) (by decide))) ((h2 q1').app.move) ((PortIn.new (by decide) (by decide)).move)) ?_)))
  refine fin [(10003,36)] (aI rfl ?_);refine⟨trivial,⟨rfl,rfl,rfl,trivial⟩,⟨?_,hpre⟩,rfl,trivial⟩;show _=aM xs x y;unfold aM;rw[show((agAt xs y).1==7)=true from q1];rfl
 ·have q1':(agAt xs y).1≠7:=by have q2:((agAt xs y).1==7)=false:=q1;simpa using q2
  refine aI ⟨by decide,by have:=h3 q1';show(0:Int)<((agAt xs y).2.2.2.1.length:Nat);omega⟩ ?_;refine eI 10001 (aI ⟨⟨hy.1,hy.2,nU hlen hy.1 hy.2 (by decide)⟩,by decide,by have:=h3 q1';show(0:Int)<((agAt xs y).2.2.2.1.length:Nat);omega⟩ ?_);refine Or.inl (eI _ (aI (MZ _ _ _) ?_));refine Or.inr (eI _ (eI _ (aI (wL xs us' bk kv 6 0 (rQ (agAt xs y).2.2.1 (fP (agAt xs y).2.2.2.1 0) (agAt xs x).2.2.1) 1 (by omega) (by omega)) ?_)));have hA1:=hA.add h0 6 0 (rQ (agAt xs y).2.2.1 (fP (agAt xs y).2.2.2.1 0) (agAt xs x).2.2.1) [] 1;refine Or.inr (eI _ (eI _ (aI (tX 0 _ us' bk kv (y,1) ((xs.length:Nat),0) hA1 h1.app (PortIn.new (by decide) (by decide))) ?_)))
  refine aI (by kernel_rfl) ?_;refine fin [(10003,61)] (aI rfl ?_);refine⟨trivial,⟨rfl,rfl,rfl,trivial⟩,⟨?_,hpre⟩,rfl,trivial⟩;show _=aM xs x y;unfold aM;rw[show((agAt xs y).1==7)=false from q1];rfl
theorem Ql:callOk Tryz.prog 108=true:=by kernel_rfl
theorem Un(xs:List NAgent)(us:List Value)(bk:List (El uNet))(kv:List (Int×Bool))(x y:Int)(hA:AllIn xs)(h0:PortIn xs (0,0))(hl:xs.length≤900000)(hx1:PortIn xs (x,1))(hx2:PortIn xs (x,2))(hy:0≤y∧y<(xs.length:Nat))(hp:(agAt xs y).2.2.2.2.length≤1000)(hdt:(agAt xs y).2.2.2.1.length≤1000000)(hp0:0<(agAt xs y).2.2.2.2.length):
  FCall Tryz.prog 108 [.ptr 10000 0,.int .i64 x,.int .i64 y] (tW xs us bk kv) (.tup []) (KW 10003 (aO xs x y) us bk kv):=by
 have hx:0≤x∧x<(xs.length:Nat):=⟨hx1.1,hx1.2.1⟩;refine FCall.expose Ql ?_;intro us' hpre hlen;refine FCall.intro (nt:=116) ti_ok mixed Ql Tryz.func108 rfl rfl rfl rfl rfl rfl ?_;refine aI hy ?_;refine aI (oG hlen hy.1 hy.2) ?_;have hnp:vW xs us' y 5 3 (us'.getD (y.toNat*5+3) undef):=⟨hy.1,hy.2,nU hlen hy.1 hy.2 (by decide)⟩;refine Or.inr (eI _ (eI _ (aI (Qb xs us' bk kv (agAt xs y).1 (agAt xs y).2.1 (agAt xs y).2.2.1 (agAt xs y).2.2.2.2.length y (us'.getD (y.toNat*5+3) undef) (by omega) (by omega) hnp (by omega)) ?_)));have hag:agAt (xs++[jN xs y]) y=agAt xs y:=bD (by omega)
 have hnp2:vW (xs++[jN xs y]) us' y 5 3 (us'.getD (y.toNat*5+3) undef):=⟨hy.1,by rw[List.length_append,List.length_singleton];omega,nU hlen hy.1 hy.2 (by decide)⟩;have hadd2:=Qb (xs++[jN xs y]) us' bk kv (agAt xs y).1 (agAt xs y).2.1 (agAt xs y).2.2.1 (agAt xs y).2.2.2.2.length y (us'.getD (y.toNat*5+3) undef) (by rw[List.length_append,List.length_singleton];omega) (by omega) hnp2 (by rw[hag];omega);rw[hag,show(xs++[jN xs y]).length=xs.length+1 by simp]at hadd2;refine Or.inr (eI _ (eI _ (aI hadd2 ?_)));have hn1:(agAt xs y).2.2.2.2.length-1+1=(agAt xs y).2.2.2.2.length:=by omega
 have h2A:=rC (y:=y) hA h0;have hcd:∀i:Nat,i≤(agAt xs y).2.2.2.2.length-1→PortIn (dup2 xs y) (((xs.length:Nat):Int),(i:Nat))∧PortIn (dup2 xs y) (((xs.length+1:Nat):Int),(i:Nat)):=fun i hi=>⟨ng (by omega) (by omega),ni (by omega) (by omega)⟩
 refine lp Nat (fun k=>[(10,.int .i64 ((k+1:Nat):Int)),(9,.sl 20001)])
  (fun k=>[.cel 6 131 [.int .i64 (agAt xs y).1,.int .i64 (agAt xs y).2.1,.int .i64 (agAt xs y).2.2.1,.nh y 3 (agAt xs y).2.2.2.1.length (us'.getD (y.toNat*5+3) undef),.nh y 4 (agAt xs y).2.2.2.2.length (us'.getD (y.toNat*5+4) undef)],
   .cel 10000 87 [.sl 20000,.rsl uNet bk,.mp 10002],.row 20000 131 5 uAgent (bH x ((xs.length:Nat)) ((xs.length+1:Nat)) (dup2 xs y) k) us',.map 10002 .bool kv,.row 20001 2 1 (.int .i64) (fQ (xs.length+2) k) []])
  (fun k=>(agAt xs y).2.2.2.2.length-1-k) (fun k=>k≤(agAt xs y).2.2.2.2.length-1) 0 (Nat.zero_le _) ?_ ?_
 ·exact hdm [⟨9,30000,2,1,.int .i64⟩] [(20000,47),(20001,30000)] rfl (aI (aI (aI rfl rfl) (aI rfl trivial)) ⟨trivial,⟨⟨rfl,rfl⟩,⟨rfl,rfl⟩,⟨rfl,rfl⟩,rfl,rfl,trivial⟩,trivial,⟨rfl,rfl,rfl,trivial⟩,⟨rfl,pR _⟩,rfl,⟨rfl,nP⟩,trivial⟩)
 intro k hk;refine aI (fun q1=> ?_) (fun q1=> ?_)
 ·have q2:((k+1:Nat):Int)<((agAt xs y).2.2.2.2.length:Nat):=by have q2:decide (((k+1:Nat):Int)<((agAt xs y).2.2.2.2.length:Nat))=true:=q1;simpa using q2
  have hlt:k<(agAt xs y).2.2.2.2.length-1:=by omega
  have hcl:(bH x ((xs.length:Nat)) ((xs.length+1:Nat)) (dup2 xs y) k).length=xs.length+2+k:=by rw[fE,dM]
  refine aI ⟨hx.1,by rw[hcl];omega⟩ ?_;refine Or.inr (eI _ (eI _ (aI (wL (bH x ((xs.length:Nat)) ((xs.length+1:Nat)) (dup2 xs y) k) us' bk kv 4 (agAt (bH x ((xs.length:Nat)) ((xs.length+1:Nat)) (dup2 xs y) k) x).2.1 0 3 (by rw[hcl];omega) (by omega)) ?_)));have hc:=hcd (k+1) (by omega);refine Or.inr (eI _ (eI _ (aI (BL _ us' bk kv (((bH x ((xs.length:Nat)) ((xs.length+1:Nat)) (dup2 xs y) k).length:Nat),1) (((xs.length:Nat):Int),((k+1:Nat):Int)) (PortIn.new (by decide) (by decide)) (aX hc.1 k).app) ?_)));refine Or.inr (eI _ (eI _ (aI (BL (aR ((bH x ((xs.length:Nat)) ((xs.length+1:Nat)) (dup2 xs y) k)++[aJ 4 (agAt (bH x ((xs.length:Nat)) ((xs.length+1:Nat)) (dup2 xs y) k) x).2.1 0 [] 3]) (((bH x ((xs.length:Nat)) ((xs.length+1:Nat)) (dup2 xs y) k).length:Nat),1) (((xs.length:Nat):Int),((k+1:Nat):Int))) us' bk kv (((bH x ((xs.length:Nat)) ((xs.length+1:Nat)) (dup2 xs y) k).length:Nat),2) (((xs.length+1:Nat):Int),((k+1:Nat):Int)) (PortIn.link (PortIn.new (by decide) (by decide))) (aX hc.2 k).app.link) ?_)))
  refine aI (by show(fQ (xs.length+2) k).length+1≤_;rw[jG];omega) ?_;refine lp_next (k+1) (by omega) ?_ ?_
  ·refine hd [(20000,65),(20001,87)] rfl (aI (aI (wrapS (by omega)) rfl) (aI rfl trivial)) ⟨trivial,⟨⟨rfl,rfl⟩,⟨rfl,rfl⟩,⟨rfl,rfl⟩,rfl,rfl,trivial⟩,trivial,⟨rfl,rfl,rfl,trivial⟩,⟨rfl,pR _⟩,rfl,⟨?_,nP⟩,trivial⟩;show fQ (xs.length+2) k++[((bH x ((xs.length:Nat)) ((xs.length+1:Nat)) (dup2 xs y) k).length:Int)]=fQ (xs.length+2) (k+1);rw[y7,hcl]
  ·show(agAt xs y).2.2.2.2.length-1-(k+1)<(agAt xs y).2.2.2.2.length-1-k;omega
 ·have q2:((agAt xs y).2.2.2.2.length:Nat)≤((k+1:Nat):Int):=by have q2:decide (((k+1:Nat):Int)<((agAt xs y).2.2.2.2.length:Nat))=false:=q1;simpa using q2
  have hke:k=(agAt xs y).2.2.2.2.length-1:=by omega
  subst hke;have h3A:AllIn (dup3 xs x y):=jF h2A (jT h0) _ hcd;have h3:∀{p},PortIn xs p→PortIn (dup3 xs x y) p:=fun h=>aX (jT h) _
  have hc0:PortIn (dup3 xs x y) (((xs.length:Nat):Int),0):=aX (ng (by decide) (by omega)) _;have hd0:PortIn (dup3 xs x y) (((xs.length+1:Nat):Int),0):=aX (ni (by decide) (by omega)) _;refine Or.inr (eI _ (eI _ (aI (tX 0 (dup3 xs x y) us' bk kv (x,1) ((xs.length:Nat),0) h3A (h3 hx1) hc0) ?_)));refine Or.inr (eI _ (eI _ (aI (tX 0 _ us' bk kv (x,2) ((xs.length+1:Nat),0) (h3A.move (h3 hx1) hc0) (h3 hx2).move hd0.move) ?_)));have h4A:AllIn (iT xs x y):=(h3A.move (h3 hx1) hc0).move (h3 hx2).move hd0.move
  have hyi:∀i:Nat,i<(agAt xs y).2.2.2.2.length-1→PortIn (iT xs x y) (y,((i:Nat):Int)+1)∧PortIn (iT xs x y) (((xs.length+2+i:Nat):Int),0):=fun i hi=>by
   refine⟨(h3 ⟨hy.1,hy.2,by omega,?_⟩).move.move,?_⟩
   ·show((i:Nat):Int)+1<((agAt xs y).2.2.2.2.length:Nat);omega
   ·have:=(nk (x:=x) (c:=((xs.length:Nat):Int)) (d:=((xs.length+1:Nat):Int)) (xs:=dup2 xs y) hi).move (p:=(x,1)) (q:=(((xs.length:Nat):Int),0));have:=this.move (p:=(x,2)) (q:=(((xs.length+1:Nat):Int),0));rw[dM]at this;exact this
  refine lp Nat (fun k=>[(102,.int .i64 (k:Nat)),(100,.sl 20001)])
   (fun k=>[.cel 10000 87 [.sl 20000,.rsl uNet bk,.mp 10002],.row 20000 131 5 uAgent (bB y (xs.length+2) (iT xs x y) k) us',.map 10002 .bool kv,.row 20001 2 1 (.int .i64) (fQ (xs.length+2) ((agAt xs y).2.2.2.2.length-1)) []])
   (fun k=>(agAt xs y).2.2.2.2.length-1-k) (fun k=>k≤(agAt xs y).2.2.2.2.length-1) 0 (Nat.zero_le _) ?_ ?_
  ·exact hd [] rfl (aI (aI rfl rfl) (aI rfl trivial)) ⟨trivial,⟨rfl,rfl,rfl,trivial⟩,⟨rfl,pR _⟩,rfl,⟨rfl,nP⟩,trivial⟩
  intro k hk;refine aI (fun q1=> ?_) (fun q1=> ?_)
  ·have hlt:k<(agAt xs y).2.2.2.2.length-1:=by
    have q2:decide (((k:Nat):Int)<((fQ (xs.length+2) ((agAt xs y).2.2.2.2.length-1)).length:Nat))=true:=q1;rw[jG]at q2;simpa using q2
   refine aI (by show(0:Int)≤(k:Nat)∧((k:Nat):Int)<((fQ (xs.length+2) ((agAt xs y).2.2.2.2.length-1)).length:Nat);rw[jG];omega) ?_;have hyk:=hyi k hlt;have hrp:=tX 0 (bB y (xs.length+2) (iT xs x y) k) us' bk kv (y,((k:Nat):Int)+1) (((xs.length+2+k:Nat):Int),0) (iU h4A k fun i hi=>hyi i (by omega)) (cZ hyk.1 k) (cZ hyk.2 k);have hw:IntKind.i64.wrap (((k:Nat):Int)+1)=((k:Nat):Int)+1:=(wrapS (by omega)).trans (by omega);have hf:elt (0:Int) (fQ (xs.length+2) ((agAt xs y).2.2.2.2.length-1)) (k:Nat)=((xs.length+2+k:Nat):Int):=Bz hlt
   have hrp2:FCall Tryz.prog 109 [.ptr 10000 0,vP (y,IntKind.i64.wrap (((k:Nat):Int)+1)),vP (elt (0:Int) (fQ (xs.length+2) ((agAt xs y).2.2.2.2.length-1)) (k:Nat),0)] (tW (bB y (xs.length+2) (iT xs x y) k) us' bk kv) (.tup []) (tW (bB y (xs.length+2) (iT xs x y) (k+1)) us' bk kv):=by
    rw[hw,hf];exact hrp
   refine Or.inr (eI _ (eI _ (aI hrp2 ?_)));refine lp_next (k+1) (by omega) ?_ ?_
   ·exact hd [] rfl (aI (aI (wrapS (by omega)) rfl) (aI rfl trivial)) ⟨trivial,⟨rfl,rfl,rfl,trivial⟩,⟨rfl,pR _⟩,rfl,⟨rfl,nP⟩,trivial⟩
   ·show(agAt xs y).2.2.2.2.length-1-(k+1)<(agAt xs y).2.2.2.2.length-1-k;omega
  ·have hge:(agAt xs y).2.2.2.2.length-1≤k:=by
    have q2:decide (((k:Nat):Int)<((fQ (xs.length+2) ((agAt xs y).2.2.2.2.length-1)).length:Nat))=false:=q1;rw[jG]at q2;simpa using q2
   have hke:k=(agAt xs y).2.2.2.2.length-1:=by omega
   refine fin [(10003,20000)] (aI rfl ?_);refine⟨trivial,⟨rfl,rfl,rfl,trivial⟩,⟨?_,hpre⟩,rfl,trivial⟩;show bB y (xs.length+2) (iT xs x y) k=aO xs x y;rw[hke];rfl
theorem FD:callOk Tryz.prog 112=true:=by kernel_rfl
theorem Ot(xs:List NAgent)(us:List Value)(bk:List (El uNet))(kv:List (Int×Bool))(x y:Int)(hA:AllIn xs)(h0:PortIn xs (0,0))(hl:xs.length≤900000)(hx:0≤x∧x<(xs.length:Nat))(hy1:PortIn xs (y,1))(h6:(agAt xs x).1=6→(agAt xs y).2.2.2.1.length=2)(hc:(agAt xs x).1≠6→0≤(agAt xs x).2.2.1∧(agAt xs x).2.2.1<((agAt xs y).2.2.2.1.length:Nat))(hp:(agAt xs x).2.2.2.2.length≤1000)(hp0:0<(agAt xs x).2.2.2.2.length):
  FCall Tryz.prog 112 [.ptr 10000 0,.int .i64 x,.int .i64 y] (tW xs us bk kv) (.tup []) (KW 10003 (iw xs x y) us bk kv):=by
 have hy:0≤y∧y<(xs.length:Nat):=⟨hy1.1,hy1.2.1⟩;refine FCall.expose FD ?_;intro us' hpre hlen;refine FCall.intro (nt:=105) ti_ok mixed FD Tryz.func112 rfl rfl rfl rfl rfl rfl ?_;refine aI hx ?_;refine aI (oG hlen hx.1 hx.2) ?_;refine aI hy ?_;refine aI (oG hlen hy.1 hy.2) ?_;refine aI (by kernel_rfl) ?_;have hnp:vW xs us' y 5 3 (us'.getD (y.toNat*5+3) undef):=⟨hy.1,hy.2,nU hlen hy.1 hy.2 (by decide)⟩;refine aI (fun q1=> ?_) (fun q1=> ?_)
 ·have q2:(agAt xs x).1=6:=by have q2:((agAt xs x).1==6)=true:=q1;simpa using q2
  have hlen2:=h6 q2
  have hb:0≤(bif (agAt xs x).2.2.1==0 then(1:Int)else 0)∧(bif (agAt xs x).2.2.1==0 then(1:Int)else 0)<((agAt xs y).2.2.2.1.length:Nat):=by
   rw[hlen2];cases ((agAt xs x).2.2.1==0)<;>decide
  refine Or.inl (eI _ (aI (Il _) ?_));refine aI hb ?_;refine eI 10001 (aI ⟨hnp,hb⟩ ?_);refine Or.inr (eI _ (eI _ (aI (wL xs us' bk kv 12 (agAt xs y).2.1 (fP (agAt xs y).2.2.2.1 (bif (agAt xs x).2.2.1==0 then 1 else 0)) 1 (by omega) (by omega)) ?_)));have hA1:=hA.add h0 12 (agAt xs y).2.1 (fP (agAt xs y).2.2.2.1 (bif (agAt xs x).2.2.1==0 then 1 else 0)) [] 1;refine Or.inr (eI _ (eI _ (aI (tX 0 _ us' bk kv (y,1) ((xs.length:Nat),0) hA1 hy1.app (PortIn.new (by decide) (by decide))) ?_)));refine aI (by kernel_rfl) ?_;refine fin [(10003,46)] (aI rfl ?_);refine⟨trivial,⟨rfl,rfl,rfl,trivial⟩,⟨?_,hpre⟩,rfl,trivial⟩
  show _=iw xs x y;unfold iw;rw[show((agAt xs x).1==6)=true from q1];rfl
 ·have q2:(agAt xs x).1≠6:=by have q2:((agAt xs x).1==6)=false:=q1;simpa using q2
  have hv:=hc q2;refine aI hv ?_;refine eI 10001 (aI ⟨hnp,hv⟩ ?_);refine Or.inr (eI _ (eI _ (aI (wL xs us' bk kv 12 (agAt xs y).2.1 (fP (agAt xs y).2.2.2.1 (agAt xs x).2.2.1) 1 (by omega) (by omega)) ?_)));refine aI (by kernel_rfl) ?_;have h1A:AllIn (aL xs y (agAt xs x).2.2.1):=hA.add h0 _ _ _ _ _;have h1l:(aL xs y (agAt xs x).2.2.1).length=xs.length+1:=mH _ _ _;have h1R:PortIn (aL xs y (agAt xs x).2.2.1) (fF (aL xs y (agAt xs x).2.2.1).length 0):=by rw[h1l];exact PortIn.new (by decide) (by decide)
  have h1:∀{p},PortIn xs p→PortIn (aL xs y (agAt xs x).2.2.1) p:=fun h=>h.app
  refine lp Nat (fun k=>[(64,.int .i64 (k:Nat)),(9,.sl 20001)])
   (fun k=>[.cel 6 131 [.int .i64 (agAt xs x).1,.int .i64 (agAt xs x).2.1,.int .i64 (agAt xs x).2.2.1,.nh x 3 (agAt xs x).2.2.2.1.length (us'.getD (x.toNat*5+3) undef),.nh x 4 (agAt xs x).2.2.2.2.length (us'.getD (x.toNat*5+4) undef)],.cel 7 131 [.int .i64 (agAt xs y).1,.int .i64 (agAt xs y).2.1,.int .i64 (agAt xs y).2.2.1,.nh y 3 (agAt xs y).2.2.2.1.length (us'.getD (y.toNat*5+3) undef),.nh y 4 (agAt xs y).2.2.2.2.length (us'.getD (y.toNat*5+4) undef)],.cel 8 102 [.int .i64 (fF (xs.length+1) k).1,.int .i64 (fF (xs.length+1) k).2],.cel 10000 87 [.sl 20000,.rsl uNet bk,.mp 10002],.row 20000 131 5 uAgent (mG (agAt xs y).2.1 (xs.length+1) (aL xs y (agAt xs x).2.2.1) k) us',.map 10002 .bool kv,.row 20001 2 1 (.int .i64) (fQ (xs.length+1) k) []])
   (fun k=>((agAt xs x).2.2.2.2.length-1)-k) (fun k=>k≤((agAt xs x).2.2.2.2.length-1)) 0 (Nat.zero_le _) ?_ ?_
  ·exact hdm [⟨9,30000,2,1,.int .i64⟩] [(20000,58),(20001,30000)] rfl (aI (aI (aI rfl rfl) (aI rfl trivial)) ⟨trivial,⟨⟨rfl,rfl⟩,⟨rfl,rfl⟩,⟨rfl,rfl⟩,rfl,rfl,trivial⟩,trivial,⟨⟨rfl,rfl⟩,⟨rfl,rfl⟩,⟨rfl,rfl⟩,rfl,rfl,trivial⟩,trivial,⟨⟨rfl,rfl⟩,⟨rfl,rfl⟩,trivial⟩,trivial,⟨rfl,rfl,rfl,trivial⟩,⟨rfl,pR _⟩,rfl,⟨rfl,nP⟩,trivial⟩)
  intro k hk;have hcl:(mG (agAt xs y).2.1 (xs.length+1) (aL xs y (agAt xs x).2.2.1) k).length=xs.length+1+k:=by rw[su,h1l]
  have hwn:IntKind.i64.wrap (((agAt xs x).2.2.2.2.length:Nat)-1)=((((agAt xs x).2.2.2.2.length-1):Nat):Int):=by rw[IntWalk.i64_in _ (by omega)];omega
  refine aI (fun q3=> ?_) (fun q3=> ?_)
  ·have hlt:k<((agAt xs x).2.2.2.2.length-1):=by
    have q4:decide (((k:Nat):Int)<IntKind.i64.wrap (((agAt xs x).2.2.2.2.length:Nat)-1))=true:=q3;rw[hwn]at q4;simpa using q4
   have hadd:=wL (mG (agAt xs y).2.1 (xs.length+1) (aL xs y (agAt xs x).2.2.1) k) us' bk kv 3 (agAt xs y).2.1 0 3 (by rw[hcl];omega) (by omega);rw[hcl]at hadd;refine Or.inr (eI _ (eI _ (aI hadd ?_)));have hnew:=PortIn.new (xs:=(mG (agAt xs y).2.1 (xs.length+1) (aL xs y (agAt xs x).2.2.1) k)) (k:=3) (l:=(agAt xs y).2.1) (v:=0) (d:=[]) (n:=3) (s:=0) (by decide) (by decide);rw[hcl]at hnew;have hR:=Bo (lv:=(agAt xs y).2.1) h1R k;rw[h1l]at hR;refine Or.inr (eI _ (eI _ (aI (BL ((mG (agAt xs y).2.1 (xs.length+1) (aL xs y (agAt xs x).2.2.1) k)++[aJ 3 (agAt xs y).2.1 0 [] 3]) us' bk kv (((xs.length+1+k:Nat):Int),0) (fF (xs.length+1) k) hnew hR.app) ?_)))
   refine aI (by kernel_rfl) ?_;refine aI (by show(fQ (xs.length+1) k).length+1≤_;rw[jG];omega) ?_;refine lp_next (k+1) (by omega) ?_ ?_
   ·refine hd [(20000,69),(20001,82)] rfl (aI (aI (wrapS (by omega)) rfl) (aI rfl trivial)) ⟨trivial,⟨⟨rfl,rfl⟩,⟨rfl,rfl⟩,⟨rfl,rfl⟩,rfl,rfl,trivial⟩,trivial,⟨⟨rfl,rfl⟩,⟨rfl,rfl⟩,⟨rfl,rfl⟩,rfl,rfl,trivial⟩,trivial,⟨⟨rfl,rfl⟩,⟨rfl,rfl⟩,trivial⟩,trivial,⟨rfl,rfl,rfl,trivial⟩,⟨rfl,pR _⟩,rfl,⟨?_,nP⟩,trivial⟩;show fQ (xs.length+1) k++[((xs.length+1+k:Nat):Int)]=fQ (xs.length+1) (k+1);rw[y7]
   ·show((agAt xs x).2.2.2.2.length-1)-(k+1)<((agAt xs x).2.2.2.2.length-1)-k;omega
  ·have hge:((agAt xs x).2.2.2.2.length-1)≤k:=by
    have q4:decide (((k:Nat):Int)<IntKind.i64.wrap (((agAt xs x).2.2.2.2.length:Nat)-1))=false:=q3;rw[hwn]at q4;simpa using q4
   have hke:k=((agAt xs x).2.2.2.2.length-1):=by omega
   subst hke;have h2A:AllIn (mG (agAt xs y).2.1 (xs.length+1) (aL xs y (agAt xs x).2.2.1) ((agAt xs x).2.2.2.2.length-1)):=by have:=CS (lv:=(agAt xs y).2.1) h1A (h1 h0) h1R ((agAt xs x).2.2.2.2.length-1);rwa[h1l]at this
   have h2:∀{p},PortIn xs p→PortIn (mG (agAt xs y).2.1 (xs.length+1) (aL xs y (agAt xs x).2.2.1) ((agAt xs x).2.2.2.2.length-1)) p:=fun h=>yR (h1 h) _
   have hxi:∀i:Nat,i<((agAt xs x).2.2.2.2.length-1)→PortIn (mG (agAt xs y).2.1 (xs.length+1) (aL xs y (agAt xs x).2.2.1) ((agAt xs x).2.2.2.2.length-1)) (x,((i:Nat):Int)+1)∧PortIn (mG (agAt xs y).2.1 (xs.length+1) (aL xs y (agAt xs x).2.2.1) ((agAt xs x).2.2.2.2.length-1)) (((xs.length+1+i:Nat):Int),1):=fun i hi=>by
    refine⟨h2 ⟨hx.1,hx.2,by omega,?_⟩,?_⟩
    ·show((i:Nat):Int)+1<((agAt xs x).2.2.2.2.length:Nat);omega
    ·have:=uY (lv:=(agAt xs y).2.1) (xs:=(aL xs y (agAt xs x).2.2.1)) (s:=1) (by decide) (by decide) hi;rw[h1l]at this;exact this
   refine lp Nat (fun k=>[(86,.int .i64 (k:Nat)),(84,.sl 20001)])
    (fun k=>[.cel 8 102 [.int .i64 (fF (xs.length+1) ((agAt xs x).2.2.2.2.length-1)).1,.int .i64 (fF (xs.length+1) ((agAt xs x).2.2.2.2.length-1)).2],.cel 10000 87 [.sl 20000,.rsl uNet bk,.mp 10002],.row 20000 131 5 uAgent (yQ x (xs.length+1) (mG (agAt xs y).2.1 (xs.length+1) (aL xs y (agAt xs x).2.2.1) ((agAt xs x).2.2.2.2.length-1)) k) us',.map 10002 .bool kv,.row 20001 2 1 (.int .i64) (fQ (xs.length+1) ((agAt xs x).2.2.2.2.length-1)) []])
    (fun k=>((agAt xs x).2.2.2.2.length-1)-k) (fun k=>k≤((agAt xs x).2.2.2.2.length-1)) 0 (Nat.zero_le _) ?_ ?_
   ·exact hd [] rfl (aI (aI rfl rfl) (aI rfl trivial)) ⟨trivial,⟨⟨rfl,rfl⟩,⟨rfl,rfl⟩,trivial⟩,trivial,⟨rfl,rfl,rfl,trivial⟩,⟨rfl,pR _⟩,rfl,⟨rfl,nP⟩,trivial⟩
   intro k hk;refine aI (fun q3=> ?_) (fun q3=> ?_)
   ·have hlt:k<((agAt xs x).2.2.2.2.length-1):=by
     have q2:decide (((k:Nat):Int)<((fQ (xs.length+1) ((agAt xs x).2.2.2.2.length-1)).length:Nat))=true:=q3;rw[jG]at q2;simpa using q2
    refine aI (by show(0:Int)≤(k:Nat)∧((k:Nat):Int)<((fQ (xs.length+1) ((agAt xs x).2.2.2.2.length-1)).length:Nat);rw[jG];omega) ?_;have hyk:=hxi k hlt;have hrp:=tX 0 (yQ x (xs.length+1) (mG (agAt xs y).2.1 (xs.length+1) (aL xs y (agAt xs x).2.2.1) ((agAt xs x).2.2.2.2.length-1)) k) us' bk kv (x,((k:Nat):Int)+1) (((xs.length+1+k:Nat):Int),1) (yD h2A k fun i hi=>hxi i (by omega)) (jQ hyk.1 k) (jQ hyk.2 k);have hw:IntKind.i64.wrap (((k:Nat):Int)+1)=((k:Nat):Int)+1:=(wrapS (by omega)).trans (by omega)
    have hf:elt (0:Int) (fQ (xs.length+1) ((agAt xs x).2.2.2.2.length-1)) (k:Nat)=((xs.length+1+k:Nat):Int):=Bz hlt
    have hrp2:FCall Tryz.prog 109 [.ptr 10000 0,vP (x,IntKind.i64.wrap (((k:Nat):Int)+1)),vP (elt (0:Int) (fQ (xs.length+1) ((agAt xs x).2.2.2.2.length-1)) (k:Nat),1)] (tW (yQ x (xs.length+1) (mG (agAt xs y).2.1 (xs.length+1) (aL xs y (agAt xs x).2.2.1) ((agAt xs x).2.2.2.2.length-1)) k) us' bk kv) (.tup []) (tW (yQ x (xs.length+1) (mG (agAt xs y).2.1 (xs.length+1) (aL xs y (agAt xs x).2.2.1) ((agAt xs x).2.2.2.2.length-1)) (k+1)) us' bk kv):=by
     rw[hw,hf];exact hrp
    refine Or.inr (eI _ (eI _ (aI hrp2 ?_)));refine lp_next (k+1) (by omega) ?_ ?_
    ·exact hd [] rfl (aI (aI (wrapS (by omega)) rfl) (aI rfl trivial)) ⟨trivial,⟨⟨rfl,rfl⟩,⟨rfl,rfl⟩,trivial⟩,trivial,⟨rfl,rfl,rfl,trivial⟩,⟨rfl,pR _⟩,rfl,⟨rfl,nP⟩,trivial⟩
    ·show((agAt xs x).2.2.2.2.length-1)-(k+1)<((agAt xs x).2.2.2.2.length-1)-k;omega
   ·have hge:((agAt xs x).2.2.2.2.length-1)≤k:=by
     have q2:decide (((k:Nat):Int)<((fQ (xs.length+1) ((agAt xs x).2.2.2.2.length-1)).length:Nat))=false:=q3;rw[jG]at q2;simpa using q2
    have hke:k=((agAt xs x).2.2.2.2.length-1):=by omega
    have hR:=Bo (lv:=(agAt xs y).2.1) h1R ((agAt xs x).2.2.2.2.length-1);rw[h1l]at hR;refine Or.inr (eI _ (eI _ (aI (tX 0 (yQ x (xs.length+1) (mG (agAt xs y).2.1 (xs.length+1) (aL xs y (agAt xs x).2.2.1) ((agAt xs x).2.2.2.2.length-1)) k) us' bk kv (y,1) (fF (xs.length+1) ((agAt xs x).2.2.2.2.length-1)) (yD h2A k fun i hi=>hxi i (by omega)) (jQ (h2 hy1) k) (jQ hR k)) ?_)));refine fin [(10003,20000)] (aI rfl ?_);refine⟨trivial,⟨rfl,rfl,rfl,trivial⟩,⟨?_,hpre⟩,rfl,trivial⟩;show bG (yQ x (xs.length+1) (mG (agAt xs y).2.1 (xs.length+1) (aL xs y (agAt xs x).2.2.1) ((agAt xs x).2.2.2.2.length-1)) k) (y,1) (fF (xs.length+1) ((agAt xs x).2.2.2.2.length-1))=iw xs x y
    unfold iw;rw[show((agAt xs x).1==6)=false from q1,hke];rfl
theorem CV(xs:List NAgent)(us:List Value)(bk:List (List NAgent))(kv:List (Int×Bool))(p:Int×Int)(h1:0≤p.1∧p.1<(xs.length:Nat))(h2:0≤p.2∧p.2<(xs.length:Nat))(hb:Cr bk)(hs:∀i:Nat,NetSmall (aS bk i))
  (hx:(aH (agAt xs p.1) (agAt xs p.2)).1=7→0≤(agAt xs (bif (aH (agAt xs p.1) (agAt xs p.2)).2 then p.2 else p.1)).2.2.1∧0≤(agAt xs (bif (aH (agAt xs p.1) (agAt xs p.2)).2 then p.2 else p.1)).2.1∧(agAt xs (bif (aH (agAt xs p.1) (agAt xs p.2)).2 then p.2 else p.1)).2.1≤8):
  FCall Tryz.prog 104 [.ptr 10000 0,vP p] (tW xs us bk kv) (.tup [.int .i64 (checkN bk xs p).1,.int .i64 (checkN bk xs p).2.1,.int .i64 (checkN bk xs p).2.2.1,.int .i64 (checkN bk xs p).2.2.2]) (tW xs us bk kv):=
 FCall.of_q ti_ok [78,0] Jw (fun m=>QN xs bk m p h1 h2 hb hs hx) rfl
theorem Qh(xs:List NAgent)(us:List Value)(bk:List (List NAgent))(kv:List (Int×Bool))(c x y:Int)(hx:0≤x∧x<(xs.length:Nat))(hy:0≤y∧y<(xs.length:Nat))(h7:c=7→0≤(agAt xs x).2.2.1∧(agAt xs x).2.2.1<(bk.length:Nat)):
  FCall Tryz.prog 106 [.ptr 10000 0,.int .i64 c,.int .i64 x,.int .i64 y] (tW xs us bk kv) (.int .i64 (ou bk xs c x y)) (tW xs us bk kv):=
 FCall.of_q ti_ok [78,0,0,0] MP (fun m=>SK xs bk m c x y hx hy h7) rfl
theorem qz:callOk Tryz.prog 60=true:=by kernel_rfl
section
variable (xs:List NAgent)(us:List Value)(bk:List (List NAgent))(kv:List (Int×Bool))(p:Int×Int)(h1:0≤p.1∧p.1<(xs.length:Nat))(h2:0≤p.2∧p.2<(xs.length:Nat))(hb:Cr bk)(hs:∀i:Nat,NetSmall (aS bk i))
  (hx:(aH (agAt xs p.1) (agAt xs p.2)).1=7→0≤(agAt xs (bif (aH (agAt xs p.1) (agAt xs p.2)).2 then p.2 else p.1)).2.2.1∧0≤(agAt xs (bif (aH (agAt xs p.1) (agAt xs p.2)).2 then p.2 else p.1)).2.1∧(agAt xs (bif (aH (agAt xs p.1) (agAt xs p.2)).2 then p.2 else p.1)).2.1≤8)
include h1 h2 hb hs hx
theorem Mi(hc:(checkN bk xs p).2.2.2≠0):FCall Tryz.prog 60 [.ptr 10000 0,vP p] (tW xs us bk kv) (.int .i64 (checkN bk xs p).2.2.2) (tW xs us bk kv):=by
 refine FCall.intro (nt:=103) ti_ok mixed qz Tryz.func60 rfl rfl rfl rfl rfl rfl ?_;refine Or.inr (eI _ (eI _ (aI (CV xs us bk kv p h1 h2 hb hs hx) ?_)));refine aI (fun q1=> ?_) (fun q1=> ?_)
 ·refine fin [] (aI ⟨rfl,rfl⟩ ?_);exact⟨trivial,⟨rfl,rfl,rfl,trivial⟩,⟨rfl,pR _⟩,rfl,trivial⟩
 ·have q2:((checkN bk xs p).2.2.2 !=0)=false:=q1;simp at q2;exact absurd q2 hc
theorem Kq{c x y:Int}(hc:checkN bk xs p=(c,x,y,0))(hx0:0≤x∧x<(xs.length:Nat))(hy0:0≤y∧y<(xs.length:Nat))(h7:c=7→0≤(agAt xs x).2.2.1∧(agAt xs x).2.2.1<(bk.length:Nat))
  (hf:600<IntKind.i64.wrap (IntKind.i64.wrap ((xs.length:Nat)-(kv.length:Nat))+ou bk xs c x y)):FCall Tryz.prog 60 [.ptr 10000 0,vP p] (tW xs us bk kv) (.int .i64 4) (tW xs us bk kv):=by
 have hck:=CV xs us bk kv p h1 h2 hb hs hx;rw[hc]at hck;refine FCall.intro (nt:=103) ti_ok mixed qz Tryz.func60 rfl rfl rfl rfl rfl rfl ?_;refine Or.inr (eI _ (eI _ (aI hck ?_)));refine aI (fun q1=>by cases q1) (fun q1=> ?_);refine Or.inr (eI _ (eI _ (aI (oI xs us bk kv) ?_)));refine Or.inr (eI _ (eI _ (aI (Qh xs us bk kv c x y hx0 hy0 h7) ?_)));refine aI (fun q2=> ?_) (fun q2=> ?_)
 ·refine fin [] (aI ⟨rfl,rfl⟩ ?_);exact⟨trivial,⟨rfl,rfl,rfl,trivial⟩,⟨rfl,pR _⟩,rfl,trivial⟩
 ·have q3:decide (600<IntKind.i64.wrap (IntKind.i64.wrap ((xs.length:Nat)-(kv.length:Nat))+ou bk xs c x y))=false:=q2;simp only[decide_eq_false_iff_not]at q3;exact absurd hf q3
theorem OQ{c x y:Int}(hc:checkN bk xs p=(c,x,y,0))(hc7:1≤c∧c≤7)(hp:IntPre xs c x y)(hA:AllIn xs)(h0:PortIn xs (0,0))(hl:xs.length≤800000)(h7:c=7→0≤(agAt xs x).2.2.1∧(agAt xs x).2.2.1<(bk.length:Nat))
  (hf:¬600<IntKind.i64.wrap (IntKind.i64.wrap ((xs.length:Nat)-(kv.length:Nat))+ou bk xs c x y))
  (hE:c=7→∀us,FCall Tryz.prog 113 [.ptr 10000 0,.int .i64 x,.int .i64 y] (tW xs us bk kv) (.tup []) (KW 10003 (jV bk xs x y) us bk kv)):
  FCall Tryz.prog 60 [.ptr 10000 0,vP p] (tW xs us bk kv) (.int .i64 0) (KW 10003 (dQ bk xs c x y) us bk (jo kv (dG c x y))):=by
 have hck:=CV xs us bk kv p h1 h2 hb hs hx;rw[hc]at hck;obtain⟨hx0,hy0,p12,p3,px,py,dy,p5,p6⟩:=hp;refine FCall.expose qz ?_;intro us' hpre hlen;have hck:=CV xs us' bk kv p h1 h2 hb hs hx;rw[hc]at hck;refine FCall.intro (nt:=103) ti_ok mixed qz Tryz.func60 rfl rfl rfl rfl rfl rfl ?_;refine Or.inr (eI _ (eI _ (aI hck ?_)));refine aI (fun q1=>by cases q1) (fun q1=> ?_);refine Or.inr (eI _ (eI _ (aI (oI xs us' bk kv) ?_)));refine Or.inr (eI _ (eI _ (aI (Qh xs us' bk kv c x y hx0 hy0 h7) ?_)));refine aI (fun q2=> ?_) (fun q2=> ?_)
 ·have q3:decide (600<IntKind.i64.wrap (IntKind.i64.wrap ((xs.length:Nat)-(kv.length:Nat))+ou bk xs c x y))=true:=q2;simp only[decide_eq_true_eq]at q3;exact absurd q3 hf
 refine aI (fun b1=> ?_) (fun b1=> ?_)
 ·have c1:c=1:=by have b:(c==1)=true:=b1;simpa using b
  have n7:(c==7)=false:=by rw[c1];rfl
  refine aI (fun _=> ?_) (fun h=>by rw[show(c==1)=true from b1]at h;cases h);obtain⟨j1,j2,j3,j4⟩:=p12 (.inl c1);refine Or.inr (eI _ (eI _ (aI (Jk xs us' bk kv (x,1) (y,1) j1 j3 (hA _ j1) (hA _ j3)) ?_)));have hA1:=hA.join j1 j3;refine Or.inr (eI _ (eI _ (aI (Jk (aB xs (x,1) (y,1)) us' bk kv (x,2) (y,2) j2.join j4.join (hA1 _ j2.join) (hA1 _ j4.join)) ?_)));refine Or.inr (eI _ (eI _ (aI (qC (aB (aB xs (x,1) (y,1)) (x,2) (y,2)) us' bk kv [x,y] (by simp)) ?_)));refine fin [(10003,10001)] (aI ⟨rfl,rfl⟩ ?_);refine⟨trivial,⟨rfl,rfl,rfl,trivial⟩,⟨?_,hpre⟩,?_,trivial⟩
  ·show(aB (aB xs (x,1) (y,1)) (x,2) (y,2))=dQ bk xs c x y;simp only[dQ,b1,cond_true,cond_false]
  ·show jo kv [x,y]=jo kv (dG c x y);simp only[dG,n7,cond_true,cond_false]
 refine aI (fun b2=> ?_) (fun b2=> ?_)
 ·have c2:c=2:=by have b:(c==2)=true:=b2;simpa using b
  have n7:(c==7)=false:=by rw[c2];rfl
  obtain⟨j1,j2,j3,j4⟩:=p12 (.inr c2);refine Or.inr (eI _ (eI _ (aI (Jk xs us' bk kv (x,1) (y,1) j1 j3 (hA _ j1) (hA _ j3)) ?_)));have hA1:=hA.join j1 j3;refine Or.inr (eI _ (eI _ (aI (Jk (aB xs (x,1) (y,1)) us' bk kv (x,2) (y,2) j2.join j4.join (hA1 _ j2.join) (hA1 _ j4.join)) ?_)));refine Or.inr (eI _ (eI _ (aI (qC (aB (aB xs (x,1) (y,1)) (x,2) (y,2)) us' bk kv [x,y] (by simp)) ?_)));refine fin [(10003,10001)] (aI ⟨rfl,rfl⟩ ?_);refine⟨trivial,⟨rfl,rfl,rfl,trivial⟩,⟨?_,hpre⟩,?_,trivial⟩
  ·show(aB (aB xs (x,1) (y,1)) (x,2) (y,2))=dQ bk xs c x y;simp only[dQ,b1,b2,cond_true,cond_false]
  ·show jo kv [x,y]=jo kv (dG c x y);simp only[dG,n7,cond_true,cond_false]
 refine aI (fun b3=> ?_) (fun b3=> ?_)
 ·have c3:c=3:=by have b:(c==3)=true:=b3;simpa using b
  have n7:(c==7)=false:=by rw[c3];rfl
  obtain⟨j1,j2⟩:=p3 c3;refine Or.inr (eI _ (eI _ (aI (Un xs us' bk kv x y hA h0 (by omega) j1 j2 hy0 py.2 dy py.1) ?_)));refine Or.inr (eI _ (eI _ (aI (qC (aO xs x y) us' bk kv [x,y] (by simp)) ?_)));refine fin [(10003,51)] (aI ⟨rfl,rfl⟩ ?_);refine⟨trivial,⟨rfl,rfl,rfl,trivial⟩,⟨?_,hpre⟩,?_,trivial⟩
  ·show(aO xs x y)=dQ bk xs c x y;simp only[dQ,b1,b2,b3,cond_true,cond_false]
  ·show jo kv [x,y]=jo kv (dG c x y);simp only[dG,n7,cond_true,cond_false]
 refine aI (fun b4=> ?_) (fun b4=> ?_)
 ·have c4:c=4:=by have b:(c==4)=true:=b4;simpa using b
  have n7:(c==7)=false:=by rw[c4];rfl
  have hyk:∀i:Nat,i<((agAt xs y).2.2.2.2.length-1)→PortIn xs (y,((i+1:Nat):Int)):=fun i hi=>⟨hy0.1,hy0.2,by omega,by show((i+1:Nat):Int)<((agAt xs y).2.2.2.2.length:Nat);omega⟩
  refine lp Nat (fun k=>[(9,.int .i64 ((k+1:Nat):Int))]) (fun k=>[.cel 10000 87 [.sl 20000,.rsl uNet bk,.mp 10002],.row 20000 131 5 uAgent (nZ y xs k) us',.map 10002 .bool kv]) (fun k=>((agAt xs y).2.2.2.2.length-1)-k) (fun k=>k≤((agAt xs y).2.2.2.2.length-1)) 0 (Nat.zero_le _) ?_ ?_
  ·exact hd [(20000,10001)] rfl (aI (aI rfl rfl) trivial) ⟨trivial,⟨rfl,rfl,rfl,trivial⟩,⟨rfl,pR _⟩,rfl,trivial⟩
  intro k hk;refine aI (show 0≤y∧y<((nZ y xs k).length:Nat) by rw[iy];omega) ?_;refine aI (oG hlen hy0.1 hy0.2) ?_;have hpl:(agAt (nZ y xs k) y).2.2.2.2.length=(agAt xs y).2.2.2.2.length:=Bw (by omega) k;refine aI (fun q4=> ?_) (fun q4=> ?_)
  ·have hlt:k<((agAt xs y).2.2.2.2.length-1):=by
    have q5:decide (((k+1:Nat):Int)<((agAt (nZ y xs k) y).2.2.2.2.length:Nat))=true:=q4;rw[hpl]at q5;have q6:((k+1:Nat):Int)<((agAt xs y).2.2.2.2.length:Nat):=by simpa using q5
    omega
   have hadd:=wL (nZ y xs k) us' bk kv 5 0 0 1 (by rw[iy];omega) (by omega);rw[iy]at hadd;refine Or.inr (eI _ (eI _ (aI hadd ?_)));refine Or.inr (eI _ (eI _ (aI (tX 0 (nZ y xs k++[aJ 5 0 0 [] 1]) us' bk kv (y,((k+1:Nat):Int)) (((xs.length+k:Nat):Int),0) ((sF hA h0 k fun i hi=>hyk i (by omega)).add (lu h0 k) _ _ _ _ _) (lu (hyk k hlt) k).app (vD k)) ?_)));refine lp_next (k+1) (by omega) ?_ ?_
   ·exact hd [(20000,73)] rfl (aI (aI (wrapS (by omega)) rfl) trivial) ⟨trivial,⟨rfl,rfl,rfl,trivial⟩,⟨rfl,pR _⟩,rfl,trivial⟩
   ·show((agAt xs y).2.2.2.2.length-1)-(k+1)<((agAt xs y).2.2.2.2.length-1)-k;omega
  have hge:((agAt xs y).2.2.2.2.length-1)≤k:=by
   have q5:decide (((k+1:Nat):Int)<((agAt (nZ y xs k) y).2.2.2.2.length:Nat))=false:=q4;rw[hpl]at q5;have q6:((agAt xs y).2.2.2.2.length:Nat)≤((k+1:Nat):Int):=by simpa using q5
   omega
  have hke:k=((agAt xs y).2.2.2.2.length-1):=by omega
  subst hke;refine Or.inr (eI _ (eI _ (aI (qC (dZ xs y) us' bk kv [x,y] (by simp)) ?_)));refine fin [(10003,20000)] (aI ⟨rfl,rfl⟩ ?_);refine⟨trivial,⟨rfl,rfl,rfl,trivial⟩,⟨?_,hpre⟩,?_,trivial⟩
  ·show(dZ xs y)=dQ bk xs c x y;simp only[dQ,b1,b2,b3,b4,cond_true,cond_false]
  ·show jo kv [x,y]=jo kv (dG c x y);simp only[dG,n7,cond_true,cond_false]
 refine aI (fun b5=> ?_) (fun b5=> ?_)
 ·have c5:c=5:=by have b:(c==5)=true:=b5;simpa using b
  have n7:(c==7)=false:=by rw[c5];rfl
  obtain⟨j1,j2,j3⟩:=p5 c5;refine Or.inr (eI _ (eI _ (aI (Te xs us' bk kv x y hA h0 (by omega) hx0 j1 j2 j3) ?_)));refine Or.inr (eI _ (eI _ (aI (qC (aM xs x y) us' bk kv [x,y] (by simp)) ?_)));refine fin [(10003,81)] (aI ⟨rfl,rfl⟩ ?_);refine⟨trivial,⟨rfl,rfl,rfl,trivial⟩,⟨?_,hpre⟩,?_,trivial⟩
  ·show(aM xs x y)=dQ bk xs c x y;simp only[dQ,b1,b2,b3,b4,b5,cond_true,cond_false]
  ·show jo kv [x,y]=jo kv (dG c x y);simp only[dG,n7,cond_true,cond_false]
 refine aI (fun b6=> ?_) (fun b6=> ?_)
 ·have c6:c=6:=by have b:(c==6)=true:=b6;simpa using b
  have n7:(c==7)=false:=by rw[c6];rfl
  obtain⟨j1,j2,j3⟩:=p6 c6;refine Or.inr (eI _ (eI _ (aI (Ot xs us' bk kv x y hA h0 (by omega) hx0 j1 j2 j3 px.2 px.1) ?_)));refine Or.inr (eI _ (eI _ (aI (qC (iw xs x y) us' bk kv [x,y] (by simp)) ?_)));refine fin [(10003,87)] (aI ⟨rfl,rfl⟩ ?_);refine⟨trivial,⟨rfl,rfl,rfl,trivial⟩,⟨?_,hpre⟩,?_,trivial⟩
  ·show(iw xs x y)=dQ bk xs c x y;simp only[dQ,b1,b2,b3,b4,b5,b6,cond_true,cond_false]
  ·show jo kv [x,y]=jo kv (dG c x y);simp only[dG,n7,cond_true,cond_false]
 refine aI (fun b7=> ?_) (fun b7=> ?_)
 ·have c7:c=7:=by have b:(c==7)=true:=b7;simpa using b
  refine Or.inr (eI _ (eI _ (aI (hE c7 us') ?_)));refine Or.inr (eI _ (eI _ (aI (qC (jV bk xs x y) us' bk kv [x] (by simp)) ?_)));refine fin [(10003,93)] (aI ⟨rfl,rfl⟩ ?_);refine⟨trivial,⟨rfl,rfl,rfl,trivial⟩,⟨?_,hpre⟩,?_,trivial⟩
  ·show(jV bk xs x y)=dQ bk xs c x y;simp only[dQ,b1,b2,b3,b4,b5,b6,b7,cond_true,cond_false]
  ·show jo kv [x]=jo kv (dG c x y);simp only[dG,b7,cond_true,cond_false]
 ·exfalso;simp at b1 b2 b3 b4 b5 b6 b7;omega
end
end Go.Proofs.YtjijpkphkicoeaaGreat
namespace Go.Proofs.YtjijpkphkicoeaaGreat
open Go Go.RowKit Go.Proofs Go.Tr
abbrev tR(xs:List NAgent)(us:List Value)(bk:List (List NAgent))(kv:List (Int×Bool))(ev:List NEvent):List Tok:=[.cel 10000 112 [.ptr 10001 0,.sl 10004],.cel 10001 87 [.sl 10002,.rsl uNet bk,.mp 10003],.row 10002 131 5 uAgent xs us,.map 10003 .bool kv,.row 10004 104 5 uEvent ev []]
abbrev UR(g1 g2:Nat)(xs:List NAgent)(us:List Value)(bk:List (List NAgent))(kv:List (Int×Bool))(ev:List NEvent):List Tok:=[.cel 10000 112 [.ptr 10001 0,.sl g2],.cel 10001 87 [.sl g1,.rsl uNet bk,.mp 10003],.row g1 131 5 uAgent xs us,.map 10003 .bool kv,.row g2 104 5 uEvent ev []]
section
variable (xs:List NAgent)(us:List Value)(bk:List (List NAgent))(kv:List (Int×Bool))(ev:List NEvent)
end
end Go.Proofs.YtjijpkphkicoeaaGreat
namespace Go.Proofs.YtjijpkphkicoeaaGreat
open Go Go.RowKit Go.Proofs Go.Tr
section
variable (xs:List NAgent)(us:List Value)(bk:List (List NAgent))(kv:List (Int×Bool))(ev:List NEvent)
variable (p:Int×Int)(h1:0≤p.1∧p.1<(xs.length:Nat))(h2:0≤p.2∧p.2<(xs.length:Nat))
include h1 h2
end
end Go.Proofs.YtjijpkphkicoeaaGreat
namespace Go.Proofs.YtjijpkphkicoeaaGreat
open Go Go.RowKit Go.Proofs Go.Tr
abbrev UJ(e:NEvent):SV:=.agg [.int .i64 e.1,.int .i64 e.2.1,.int .i64 e.2.2.1,.int .i64 e.2.2.2.1,.int .i64 e.2.2.2.2]
section
variable (xs:List NAgent)(us:List Value)(bk:List (List NAgent))(kv:List (Int×Bool))(ev:List NEvent)(e:NEvent)
variable (ha:NC xs kv e.1=true)(hb:NC xs kv e.2.1=true)(hp:0<(agAt xs e.1).2.2.2.2.length)
include ha hb hp
variable (h:Og xs e.1 e.2.1=true)
include h
end
end Go.Proofs.YtjijpkphkicoeaaGreat
namespace Go.Proofs.YtjijpkphkicoeaaGreat
open Go Go.RowKit Go.Proofs Go.Tr
theorem JA:callOk Tryz.prog 58=true:=by kernel_rfl
theorem Rm(xs:List NAgent)(bk:List (List NAgent))(h:NetSmall xs):FCall Tryz.prog 58 [.rsl uNet bk,.agg [.rsl uAgent xs]] [] (.ptr 10000 0) [.cel 10000 87 [.sl 10001,.rsl uNet bk,.mp 10002],.row 10001 131 5 uAgent xs [],.map 10002 .bool []]:=by
 refine FCall.intro (nt:=11) ti_ok mixed JA Tryz.func58 rfl rfl rfl rfl rfl rfl ?_;refine Or.inr (eI _ (eI _ (aI (vo xs h) ?_)));refine fin [(10000,10),(10001,6),(10002,8)] (aI rfl ?_);exact⟨trivial,⟨rfl,rfl,rfl,trivial⟩,⟨rfl,nP⟩,rfl,trivial⟩
end Go.Proofs.YtjijpkphkicoeaaGreat
