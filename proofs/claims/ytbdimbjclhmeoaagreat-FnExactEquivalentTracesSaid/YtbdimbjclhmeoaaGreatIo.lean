
/- The program's nets: wires. -/
import Derived.Test.YtbdimbjclhmeoaaGreatVti
import Derived.Test.YtbdimbjclhmeoaaGreatNw
set_option maxHeartbeats 4000000
set_option maxRecDepth 100000
set_option linter.unusedSimpArgs false
set_option linter.unusedVariables false
set_option linter.unusedSectionVars false
namespace Go.Proofs.YtbdimbjclhmeoaaGreat
open Go Go.RowKit Go.Proofs Go.Tr
abbrev tW(xs:List ak)(us:List Value)(bk:List (El aZ))(kv:List (Int×Bool)):List Tok:=[.dL 10000 130 [.sl 10001,.rsl aZ bk,.mp 10002],.row 10001 117 5 aD xs us,.map 10002 .bool kv]
theorem UQ:bH Tryz.prog 219=true:=by kernel_rfl
theorem He(xs:aS)(us:bW)(bk:List (El aZ))(kv:kT)(p q:aC)(hp:aj xs p)(hq:aj xs q):aA Tryz.prog 219 [.ptr 10000 0,vP p,vP q] (tW xs us bk kv) (.tup []) (tW (bD xs p q) us bk kv):=by
 refine aA.expose UQ ?_;intro us' hpre hlen;have hq':aj (aN xs p q) q:=hq.set;obtain⟨p1,p2,p3,p4⟩:=hp;obtain⟨q1,q2,q3,q4⟩:=hq';have q2':q.1<(xs.length:Nat):=by rwa[cO]at q2
 refine aA.intro (nt:=32) aG mixed UQ Tryz.func219 rfl rfl rfl rfl rfl rfl ?_;refine aI ⟨p1,p2⟩ ?_;refine aI (vZ hlen p1 p2) ?_;refine aI ⟨p3,p4⟩ ?_;refine eI 10001 (aI ⟨⟨p1,p2,sW hlen p1 p2 (by decide)⟩,p3,p4⟩ ?_);refine aI (by kernel_rfl) ?_;refine aI ⟨q1,q2⟩ ?_;refine aI (vZ hlen q1 q2') ?_;refine aI ⟨q3,q4⟩ ?_;refine eI 10001 (aI ⟨⟨q1,q2,sW hlen q1 q2' (by decide)⟩,q3,q4⟩ ?_);refine aI (by kernel_rfl) ?_;refine fin [] (aI rfl ?_);exact⟨trivial,⟨rfl,rfl,rfl,trivial⟩,⟨rfl,hpre⟩,rfl,trivial⟩
theorem Nq:bH Tryz.prog 110=true:=by kernel_rfl
theorem PV(xs:aS)(p:aC)(hp:aj xs p):aJ Tryz.prog 110 [.rp aZ xs,vP p] (vP (ay xs p)):=by
 obtain⟨p1,p2,p3,p4⟩:=hp;refine aJ.intro (nt:=18) aG mixed Nq Tryz.func110 rfl rfl rfl rfl rfl ?_;refine aI ⟨p1,p2⟩ ?_;refine aI ⟨p3,p4⟩ ?_;refine aI (by kernel_rfl) ?_;exact rfl
theorem Va(xs:aS)(us:bW)(bk:List (El aZ))(kv:kT)(p:aC)(hp:aj xs p):aA Tryz.prog 110 [.ptr 10000 0,vP p] (tW xs us bk kv) (vP (ay xs p)) (tW xs us bk kv):=
 aA.vC aG [64,0] Nq (PV xs p hp) rfl
theorem ZbK(xs:aS)(us:bW)(bk:List (El aZ))(kv:kT)(p q:aC)(hp:aj xs p)(hr:aj xs (ay xs p))(hq:aj xs q):aA Tryz.prog 185 [.ptr 10000 0,vP p,vP q] (tW xs us bk kv) (.tup []) (tW (bY xs p q) us bk kv):=by
 refine aA.intro (nt:=16) aG mixed (by kernel_rfl) Tryz.func185 rfl rfl rfl rfl rfl rfl ?_;refine oY (Va xs us bk kv p hp) ?_;refine oY (He xs us bk kv _ q hr hq) ?_;refine aI (by kernel_rfl) ?_;refine fin [] (aI rfl ?_);exact⟨trivial,⟨rfl,rfl,rfl,trivial⟩,⟨rfl,pR _⟩,rfl,trivial⟩
theorem Pq(xs:aS)(us:bW)(bk:List (El aZ))(kv:kT)(p q:aC)(hp:aj xs p)(hq:aj xs q)(hr:aj xs (ay xs p))(hs:aj xs (ay xs q)):aA Tryz.prog 183 [.ptr 10000 0,vP p,vP q] (tW xs us bk kv) (.tup []) (tW (bg xs p q) us bk kv):=by
 refine aA.intro (nt:=27) aG mixed (by kernel_rfl) Tryz.func183 rfl rfl rfl rfl rfl rfl ?_;refine oY (Va xs us bk kv p hp) ?_;refine oY (Va xs us bk kv q hq) ?_;refine aI (by kernel_rfl) ?_;refine aI ⟨by kernel_rfl,rfl⟩ ?_;refine aI (fun h1=> ?_) (fun h1=> ?_)
 .refine oY (He xs us bk kv (ay xs p) (ay xs q) hr hs) ?_;refine aI (by kernel_rfl) ?_;refine fin [] (aI rfl ?_);refine⟨trivial,⟨rfl,rfl,rfl,trivial⟩,⟨?_,pR _⟩,rfl,trivial⟩;have h1:(!bT [(ay xs p).1,(ay xs p).2] [q.1,q.2])=true:=h1
  have h2:((ay xs p).1==q.1&&(ay xs p).2==q.2)=false:=by
   cases hc:((ay xs p).1==q.1&&(ay xs p).2==q.2)with
   |false=>rfl
   |true=>simp[bT,hc]at h1
  show bD xs (ay xs p) (ay xs q)=_;unfold bg;rw[h2];rfl
 .refine fin [] (aI rfl ?_);refine⟨trivial,⟨rfl,rfl,rfl,trivial⟩,⟨?_,pR _⟩,rfl,trivial⟩;have h1:(!bT [(ay xs p).1,(ay xs p).2] [q.1,q.2])=false:=h1;have h2:((ay xs p).1==q.1&&(ay xs p).2==q.2)=true:=by simpa[bT]using h1
  show xs=_;unfold bg;rw[h2];rfl
theorem wZ:bH Tryz.prog 149=true:=by kernel_rfl
theorem MQ(xs:List (El (.int .i64)))(hx:xs.length<=1048576):aA Tryz.prog 149 [.rsl (.int .i64) xs] [] (.sl 10000) [.row 10000 2 1 (.int .i64) xs []]:=by
 refine aA.Zbm (fun he c=> ?_) ?_
 .subst he;refine aA.intro (nt:=8) aG mixed wZ Tryz.func149 rfl rfl rfl rfl rfl rfl ?_;refine aI (fun h1=> ?_) (fun h1=>by cases h1);refine Zo [⟨2,30000,2,1,.int .i64⟩] [(10000,30000)] (aI rfl ?_);exact⟨⟨rfl,nP⟩,trivial⟩
 .refine aA.intro (nt:=8) aG mixed wZ Tryz.func149 rfl rfl rfl rfl rfl rfl ?_;refine aI (fun h1=>by cases h1) (fun h1=> ?_);refine aI (by show 0+xs.length<=_;omega) ?_;refine fin [(10000,7)] (aI rfl ?_);exact⟨⟨rfl,nP⟩,trivial⟩
theorem HZ:bH Tryz.prog 150=true:=by kernel_rfl
theorem WG(xs:List (El (aK)))(hx:xs.length<=1048576):aA Tryz.prog 150 [.rsl (aK) xs] [] (.sl 10000) [.row 10000 119 2 (aK) xs []]:=by
 refine aA.Zbm (fun he c=> ?_) ?_
 .subst he;refine aA.intro (nt:=8) aG mixed HZ Tryz.func150 rfl rfl rfl rfl rfl rfl ?_;refine aI (fun h1=> ?_) (fun h1=>by cases h1);refine Zo [⟨2,30000,119,2,aK⟩] [(10000,30000)] (aI rfl ?_);exact⟨⟨rfl,nP⟩,trivial⟩
 .refine aA.intro (nt:=8) aG mixed HZ Tryz.func150 rfl rfl rfl rfl rfl rfl ?_;refine aI (fun h1=>by cases h1) (fun h1=> ?_);refine aI (by show 0+xs.length<=_;omega) ?_;refine fin [(10000,7)] (aI rfl ?_);exact⟨⟨rfl,nP⟩,trivial⟩
theorem vK(xs:aS)(us:bW)(bk:List (El aZ))(kv:kT)(ks:List Int)(hk:ks.length<=1000):aA Tryz.prog 190 [.ptr 10000 0,.sl 10003] (tW xs us bk kv++[.row 10003 2 1 (.int .i64) ks []]) (.tup []) (tW xs us bk (fU kv ks)):=by
 refine aA.intro (nt:=18) aG mixed (by kernel_rfl) Tryz.func190 rfl rfl rfl rfl rfl rfl ?_;refine lp Nat (fun i=>[(8,.int .i64 (i:Nat))]) (fun i=>tW xs us bk (fU kv (ks.take i))++[.row 10003 2 1 (.int .i64) ks []]) (fun i=>ks.length-i) (fun i=>i<=ks.length) 0 (Nat.zero_le _) ?_ ?_
 .exact hd [] rfl (aI (aI rfl rfl) trivial) ⟨trivial,⟨rfl,rfl,rfl,trivial⟩,⟨rfl,pR _⟩,rfl,⟨rfl,nP⟩,trivial⟩
 intro i hi;refine aI (fun h1=> ?_) (fun h1=> ?_)
 .have hlt:i<ks.length:=by simpa using h1
  refine aI (by show(0:Int)<=(i:Nat)/\((i:Nat):Int)<(ks.length:Nat);omega) ?_;refine aY (i+1) hlt ?_ ?_
  .refine hd [] rfl (aI (aI (dG (by omega)) rfl) trivial) ⟨trivial,⟨rfl,rfl,rfl,trivial⟩,⟨rfl,pR _⟩,Rz kv hlt,⟨rfl,nP⟩,trivial⟩
  .show ks.length-(i+1)<ks.length-i;omega
 .have hge:ks.length<=i:=by simpa using h1
  refine fin [] (aI rfl ?_);refine⟨trivial,⟨rfl,rfl,rfl,trivial⟩,⟨rfl,pR _⟩,?_,trivial⟩;show fU kv (ks.take i)=fU kv ks;rw[qN hge]
theorem iX(a b:Bool):(bif a then b else false)=(a&&b):=by cases a<;>rfl
theorem Dw(a b:Bool):(bif a then true else b)=(a||b):=by cases a<;>rfl
theorem F5(n lo hi:Int):aJ Tryz.prog 38 [.int .i64 n,.int .i64 lo,.int .i64 hi] (.bool (gG n lo hi)):=by
 refine aJ.intro (nt:=15) aG mixed (by kernel_rfl) Tryz.func38 rfl rfl rfl rfl rfl ?_;exact iX _ _
theorem YC(n:Int):aJ Tryz.prog 213 [.int .i64 n] (.bool (oG n)):=by
 refine aJ.intro (nt:=9) aG mixed (by kernel_rfl) Tryz.func213 rfl rfl rfl rfl rfl ?_;exact iX _ _
theorem Ug(n:Int):aJ Tryz.prog 215 [.int .i64 n] (.bool (y5 n)):=by
 refine aJ.intro (nt:=9) aG mixed (by kernel_rfl) Tryz.func215 rfl rfl rfl rfl rfl ?_;exact iX _ _
theorem Da(k:Int):aJ Tryz.prog 214 [.int .i64 k] (.bool (bX k)):=by
 refine aJ.intro (nt:=17) aG mixed (by kernel_rfl) Tryz.func214 rfl rfl rfl rfl rfl ?_;refine oZ (YC k) ?_;refine Eq.trans (Eq.refl _) ?_;simp only[iX,bX]
theorem Jp(k:Int):aJ Tryz.prog 199 [.int .i64 k] (.bool (bX k)):=by
 refine aJ.intro (nt:=14) aG mixed (by kernel_rfl) Tryz.func199 rfl rfl rfl rfl rfl ?_
 repeat' (refine aI (fun _=> ?_) (fun _=> ?_))
 all_goals (refine Eq.trans (Eq.refl _) ?_)
 all_goals (simp_all [bX,oG,gG])
 all_goals omega
theorem IG(k l:Int):aJ Tryz.prog 174 [.int .i64 k,.int .i64 l] (.bool (dz k l)):=by
 refine aJ.intro (nt:=19) aG mixed (by kernel_rfl) Tryz.func174 rfl rfl rfl rfl rfl ?_;refine oZ (YC k) ?_;refine oZ (fun _=>Da k) ?_;refine oZ (fun _=>Ug l) ?_;refine Eq.trans (Eq.refl _) ?_;simp only[iX,Dw,dz]
theorem Zbf(k:Int):aJ Tryz.prog 211 [.int .i64 k] (.bool (oG k)):=by
 refine aJ.intro (nt:=5) aG mixed (by kernel_rfl) Tryz.func211 rfl rfl rfl rfl rfl ?_;refine oZ (F5 k 1 12) ?_;exact rfl
theorem II(k l:Int):aJ Tryz.prog 170 [.int .i64 k,.int .i64 l] (.bool (dz k l)):=by
 refine aJ.intro (nt:=15) aG mixed (by kernel_rfl) Tryz.func170 rfl rfl rfl rfl rfl ?_;refine oZ (Jp k) ?_;refine aI (fun q=> ?_) (fun q=> ?_)
 .refine oZ (F5 l 0 8) ?_;refine Eq.trans (Eq.refl _) ?_;have q:bX k=true:=q;have hk:oG k=true:=by cases h:oG k with|true=>rfl|false=>rw[Bo h]at q;cases q
  simp only[dz,q,hk,Bool.true_and,y5]
  by_cases h0:l=0
  .subst h0;rfl
  .simp[h0]
 .refine oZ (Zbf k) ?_;refine Eq.trans (Eq.refl _) ?_;have q:bX k=false:=q;simp only[iX,dz,q,Bool.false_and,Bool.or_false]
theorem ZaZ(k:Int):aJ Tryz.prog 232 [.int .i64 k] (.bool (oW k)):=by
 refine aJ.intro (nt:=21) aG mixed (by kernel_rfl) Tryz.func232 rfl rfl rfl rfl rfl ?_;refine Eq.trans (Eq.refl _) ?_;simp only[Dw,oW,Bool.or_assoc]
theorem Za0(k:Int):aJ Tryz.prog 223 [.int .i64 k] (.bool (oW k)):=by
 refine aJ.intro (nt:=10) aG mixed (by kernel_rfl) Tryz.func223 rfl rfl rfl rfl rfl ?_
 repeat' (refine aI (fun _=> ?_) (fun _=> ?_))
 all_goals (refine Eq.trans (Eq.refl _) ?_)
 all_goals simp_all [oW]
theorem dplQ(t k l:Int):aJ Tryz.prog 231 [.int .i64 t,.int .i64 k,.int .i64 l] (.bool (tT t k l)):=by
 refine aJ.intro (nt:=31) aG mixed (by kernel_rfl) Tryz.func231 rfl rfl rfl rfl rfl ?_;refine oZ (Ug t) ?_;refine oZ (fun _=>IG k l) ?_;refine aI (fun q=> ?_) (fun q=> ?_)
 .refine Eq.trans (Eq.refl _) ?_;simp only[tT];have q:(bif !y5 t then true else !dz k l)=true:=q;revert q;cases y5 t<;>cases dz k l<;>simp
 .refine oZ (fun _=>Da k) ?_;refine Eq.trans (Eq.refl _) ?_;have q:(bif !y5 t then true else !dz k l)=false:=q;have h:y5 t=true/\dz k l=true:=by revert q;cases y5 t<;>cases dz k l<;>simp
  simp only[iX,Dw,tT,h.1,h.2,Bool.true_and,Bool.or_assoc]
theorem dplS(t k l:Int):aJ Tryz.prog 222 [.int .i64 t,.int .i64 k,.int .i64 l] (.bool (tT t k l)):=by
 refine aJ.intro (nt:=29) aG mixed (by kernel_rfl) Tryz.func222 rfl rfl rfl rfl rfl ?_;refine oZ (F5 t 0 8) ?_;refine oZ (fun _=>II k l) ?_;refine aI (fun q=> ?_) (fun q=> ?_)
 .refine Eq.trans (Eq.refl _) ?_;simp only[tT];have q:(bif !y5 t then true else !dz k l)=true:=q;revert q;cases y5 t<;>cases dz k l<;>simp
 .have q:(bif !y5 t then true else !dz k l)=false:=q;have h:y5 t=true/\dz k l=true:=by revert q;cases y5 t<;>cases dz k l<;>simp
  refine aI (fun q2=> ?_) (fun q2=> ?_)
  .refine Eq.trans (Eq.refl _) ?_;have q2:(bif k==6 then true else k==12)=true:=q2;rw[Dw]at q2;simp only[tT,h.1,h.2,q2,Bool.true_and,Bool.true_or]
  .refine oZ (Jp k) ?_;refine Eq.trans (Eq.refl _) ?_;have q2:(bif k==6 then true else k==12)=false:=q2;rw[Dw]at q2;simp only[iX,tT,h.1,h.2,q2,Bool.true_and,Bool.false_or]
theorem YL(ka la kb lb:Int):aJ Tryz.prog 216 [.int .i64 ka,.int .i64 la,.int .i64 kb,.int .i64 lb] (.int .i64 (rule ka la kb lb)):=by
 refine aJ.intro (nt:=52) aG mixed (by kernel_rfl) Tryz.func216 rfl rfl rfl rfl rfl ?_;refine aI (fun _=> ?_) (fun _=>aI (fun _=>aI (fun _=> ?_) (fun _=>Or.inl (eI _ (aI (dplQ la kb lb) (aI (fun _=> ?_) (fun _=> ?_)))))) (fun _=> ?_))
 repeat' (refine aI ?_ ?_<;>intro _)
 rotate_right 2
 refine Or.inl (eI _ (aI (ZaZ kb) (aI (fun _=> ?_) (fun _=> ?_))))
 all_goals (refine aI (Eq.trans (Eq.refl _) ?_) rfl)
 all_goals (simp_all [rule])
theorem Qe(ka la kb lb:Int):aJ Tryz.prog 192 [.int .i64 ka,.int .i64 la,.int .i64 kb,.int .i64 lb] (.int .i64 (rule ka la kb lb)):=by
 refine aJ.intro (nt:=50) aG mixed (by kernel_rfl) Tryz.func192 rfl rfl rfl rfl rfl ?_;refine aI (fun _=> ?_) (fun _=>aI (fun _=>aI (fun _=> ?_) (fun _=>Or.inl (eI _ (aI (dplS la kb lb) (aI (fun _=> ?_) (fun _=> ?_)))))) (fun _=> ?_))
 repeat' (refine aI ?_ ?_<;>intro _)
 rotate_right 2
 refine Or.inl (eI _ (aI (Za0 kb) (aI (fun _=> ?_) (fun _=> ?_))))
 all_goals (refine aI (Eq.trans (Eq.refl _) ?_) rfl)
 all_goals (simp_all [rule])
theorem XD(a b c d:Int):aJ Tryz.prog 180 [.int .i64 a,.int .i64 b,.int .i64 c,.int .i64 d] (.tup [.int .i64 (aT a b c d),.int .i64 (aP a b c d)]):=by
 have hp:∀{z:Bool},(bif (bif (bif a==1 then true else c==1)then true else !dz a b)then true else !dz c d)=z->lJ a b c d= !z:=fun q=>by
  subst q;unfold lJ;simp only[bne];generalize (a==1)=x;generalize (c==1)=y;cases x<;>cases y<;>cases dz a b<;>cases dz c d<;>rfl
 refine aJ.intro (nt:=46) aG mixed (by kernel_rfl) Tryz.func180 rfl rfl rfl rfl rfl ?_;refine oZ (fun _=>IG a b) ?_;refine oZ (fun _=>IG c d) ?_;refine aI (fun q=> ?_) (fun q=> ?_)
 .refine Eq.trans (Eq.refl _) ?_;simp only[aT,aP,hp q];rfl
 refine oZ (YL a b c d) ?_;refine aI (fun q2=> ?_) (fun q2=> ?_)
 .refine Eq.trans (Eq.refl _) ?_;have q2:(rule a b c d !=0)=true:=q2;have q2:¬rule a b c d=0:=by simpa using q2
  simp only[aT,aP,hp q,q2,if_false];rfl
 have q2:(rule a b c d !=0)=false:=q2;have q2:rule a b c d=0:=by simpa using q2
 refine oZ (YL c d a b) ?_;refine aI (fun q3=> ?_) (fun q3=> ?_)
 .refine Eq.trans (Eq.refl _) ?_;have q3:(rule c d a b !=0)=true:=q3;have q3:¬rule c d a b=0:=by simpa using q3
  simp only[aT,aP,hp q,q2,q3,if_false];rfl
 .refine Eq.trans (Eq.refl _) ?_;have q3:(rule c d a b !=0)=false:=q3;have q3:rule c d a b=0:=by simpa using q3
  simp only[aT,aP,hp q,q2,q3];rfl
theorem U8(a b c d:Int):aJ Tryz.prog 191 [.int .i64 a,.int .i64 b,.int .i64 c,.int .i64 d] (.bool (lJ a b c d)):=by
 refine aJ.intro (nt:=25) aG mixed (by kernel_rfl) Tryz.func191 rfl rfl rfl rfl rfl ?_;refine oZ (II a b) ?_;refine oZ (fun _=>II c d) ?_;refine Eq.trans (Eq.refl _) ?_;simp only[iX,lJ]
theorem Nu(a b c d:Int):aJ Tryz.prog 151 [.int .i64 a,.int .i64 b,.int .i64 c,.int .i64 d] (.int .i64 (aT a b c d)):=by
 refine aJ.intro (nt:=31) aG mixed (by kernel_rfl) Tryz.func151 rfl rfl rfl rfl rfl ?_;refine oZ (U8 a b c d) ?_;refine aI (fun q=> ?_) (fun q=> ?_)
 .refine aI (Eq.trans (Eq.refl _) ?_) rfl;have q:(!lJ a b c d)=true:=q;simp[aT,show lJ a b c d=false by simpa using q]
 have q:lJ a b c d=true:=by have q:(!lJ a b c d)=false:=q;simpa using q
 refine oZ (Qe a b c d) ?_;refine aI (fun q2=>oZ (Qe c d a b) ?_) (fun q2=> ?_)
 all_goals (refine aI (fun q3=> ?_) (fun q3=> ?_))
 all_goals (refine aI (Eq.trans (Eq.refl _) ?_) rfl)
 all_goals (simp_all [aT])
theorem Tk(a b c d:Int):aJ Tryz.prog 195 [.int .i64 a,.int .i64 b,.int .i64 c,.int .i64 d] (.int .i64 (aP a b c d)):=by
 refine aJ.intro (nt:=27) aG mixed (by kernel_rfl) Tryz.func195 rfl rfl rfl rfl rfl ?_;refine oZ (U8 a b c d) ?_;refine aI (fun q=> ?_) (fun q=> ?_)
 .refine aI (Eq.trans (Eq.refl _) ?_) rfl;have q:(!lJ a b c d)=true:=q;simp[aP,show lJ a b c d=false by simpa using q]
 have q:lJ a b c d=true:=by have q:(!lJ a b c d)=false:=q;simpa using q
 refine oZ (Qe a b c d) ?_;refine aI (fun q2=> ?_) (fun q2=> ?_)
 .refine aI (Eq.trans (Eq.refl _) ?_) rfl
  simp_all [aP]
 refine oZ (Qe c d a b) ?_;refine aI (fun q3=> ?_) (fun q3=> ?_)
 all_goals (refine aI (Eq.trans (Eq.refl _) ?_) rfl)
 all_goals (simp_all [aP])
theorem BJ:bH Tryz.prog 146=true:=by kernel_rfl
theorem Sq(xs:aS)(p:Int×Int)(h1:0<=p.1/\p.1<(xs.length:Nat))(h2:0<=p.2/\p.2<(xs.length:Nat)):aJ Tryz.prog 146 [.rp aZ xs,vP p] (.tup [.int .i64 (bn (ah xs p.1) (ah xs p.2)).1,.bool (bn (ah xs p.1) (ah xs p.2)).2]):=by
 refine aJ.intro (nt:=60) aG mixed BJ Tryz.func146 rfl rfl rfl rfl rfl ?_;refine aI h1 ?_;refine aI h2 ?_;refine aI (by kernel_rfl) ?_;refine oZ (XD _ _ _ _) ?_;refine aI (fun q1=> ?_) (fun q1=> ?_)
 .refine aI (fun q2=> ?_) (fun q2=> ?_)
  .have e:=MP (x:=ah xs p.1) (y:=ah xs p.2) q1 q2;rw[e];exact rfl
  .have e:=MO (x:=ah xs p.1) (y:=ah xs p.2) q1 q2;rw[e];exact rfl
 .refine aI (fun q2=> ?_) (fun q2=> ?_)
  .have e:=MN (x:=ah xs p.1) (y:=ah xs p.2) q1 q2;rw[e];exact rfl
  .have e:=ML (x:=ah xs p.1) (y:=ah xs p.2) q1 q2;rw[e];exact rfl
theorem xU(c p:Int):aJ Tryz.prog 218 [.int .i64 c,.int .i64 p] (.tup [.int .i64 (dD c p).1,.int .i64 (dD c p).2]):=by
 refine aJ.intro (nt:=34) aG mixed (by kernel_rfl) Tryz.func218 rfl rfl rfl rfl rfl ?_
 repeat' (refine aI (fun _=> ?_) (fun _=> ?_))
 all_goals (refine Eq.trans (Eq.refl _) ?_;(first|(simp only[dD,oD, *,qG,qH];done)|(simp_all [dD,oD];done)|(simp_all [dD,oD];grind)))
theorem MR(x:ak)(h1:x.data.length<=1048576)(h2:x.aO.length<=1048576):aA Tryz.prog 123 [.agg [.int .i64 x.1,.int .i64 x.2.1,.int .i64 x.2.2.1,.rsl (.int .i64) x.2.2.2.1,.rsl aK x.2.2.2.2]] [] (.agg [.int .i64 x.1,.int .i64 x.2.1,.int .i64 x.2.2.1,.sl 10000,.sl 10001]) [.row 10000 2 1 (.int .i64) x.2.2.2.1 [],.row 10001 119 2 aK x.2.2.2.2 []]:=by
 refine aA.intro (nt:=12) aG mixed (by kernel_rfl) Tryz.func123 rfl rfl rfl rfl rfl rfl ?_;refine oY (MQ _ h1) ?_;refine oY (WG _ h2) ?_;refine aI (by kernel_rfl) ?_;refine fin [(10000,5),(10001,8)] (aI rfl ?_);exact⟨⟨rfl,nP⟩,⟨rfl,nP⟩,trivial⟩
theorem DK(xs:aS)(h:dK xs):aA Tryz.prog 138 [.agg [.rsl aD xs]] [] (.agg [.sl 10000]) [.row 10000 117 5 aD xs []]:=by
 obtain⟨hl,ha⟩:=h;refine aA.intro (nt:=27) aG mixed (by kernel_rfl) Tryz.func138 rfl rfl rfl rfl rfl rfl ?_;refine aI ⟨Int.le_refl 0,by omega,by omega⟩ ?_;refine lp Nat (fun i=>[(14,.int .i64 (i:Nat))]) (fun i=>[.dL 2 37 [.raw (.slice none 0 0)],.dL 3 37 [.sl 20000],.row 20000 117 5 aD (xs.take i) []]) (fun i=>xs.length-i) (fun i=>i<=xs.length) 0 (Nat.zero_le _) ?_ ?_
 .exact hd [(20000,9)] rfl (aI (aI rfl rfl) trivial) ⟨trivial,⟨rfl,trivial⟩,trivial,⟨rfl,trivial⟩,⟨rfl,nP⟩,trivial⟩
 intro i hi;refine aI (fun q1=> ?_) (fun q1=> ?_)
 .have hlt:i<xs.length:=by simpa using q1
  refine aI (by show(0:Int)<=(i:Nat)/\((i:Nat):Int)<(xs.length:Nat);omega) ?_;refine oY (MR (ah xs i) (ha i).1 (ha i).2) ?_;refine aI (by show(xs.take i).length+1<=_;rw[List.length_take];omega) ?_;refine aI (by kernel_rfl) ?_;refine aY (i+1) hlt ?_ ?_
  .refine hd [(20000,23)] rfl (aI (aI (dG (by omega)) rfl) trivial) ⟨trivial,⟨rfl,trivial⟩,trivial,⟨rfl,trivial⟩,⟨?_,nP⟩,trivial⟩;show xs.take i++[ah xs i]=xs.take (i+1);rw[List.take_add_one,qB hlt];unfold ah elt;rw[qK,qC,qB hlt];rfl
  .show xs.length-(i+1)<xs.length-i;omega
 .have hge:xs.length<=i:=by simpa using q1
  refine fin [(10000,20000)] (aI rfl ?_);refine⟨⟨?_,nP⟩,trivial⟩;show xs.take i=xs;rw[qN hge]
abbrev VN(g:Nat)(xs:List ak)(us:List Value)(bk:List (El aZ))(kv:List (Int×Bool)):List Tok:=[.dL 10000 130 [.sl g,.rsl aZ bk,.mp 10002],.row g 117 5 aD xs us,.map 10002 .bool kv]
theorem UK:bH Tryz.prog 186=true:=by kernel_rfl
theorem Sv:aA Tryz.prog 149 [.raw (.slice none 0 0)] [] (.sl 10000) [.row 10000 2 1 (.int .i64) [] []]:=by
 refine aA.intro (nt:=8) aG mixed wZ Tryz.func149 rfl rfl rfl rfl rfl rfl ?_;refine aI (fun h1=> ?_) (fun h1=>by cases h1);refine Zo [⟨2,30000,2,1,.int .i64⟩] [(10000,30000)] (aI rfl ?_);exact⟨⟨rfl,nP⟩,trivial⟩
theorem AV(xs:aS)(us:bW)(bk:List (El aZ))(kv:kT)(k l v:Int)(n:Nat)(hl:xs.length<=1000000)(hn:n<=1000000):aA Tryz.prog 186 [.ptr 10000 0,.int .i64 k,.int .i64 l,.int .i64 v,.raw (.slice none 0 0),.int .i64 (n:Nat)] (tW xs us bk kv) (.int .i64 (xs.length:Nat)) (VN 10003 (xs++[bf k l v [] n]) us bk kv):=by
 refine aA.intro (nt:=39) aG mixed UK Tryz.func186 rfl rfl rfl rfl rfl rfl ?_;refine oY Sv ?_;refine aI ⟨by omega,Int.le_refl _,by omega⟩ ?_;refine aI (by show xs.length+1<=_;omega) ?_;refine aI (by kernel_rfl) ?_;refine fin [(10003,28)] (aI ?_ ?_)
 .show IntKind.i64.wrap (((xs++[bf k l v [] n]).length:Nat)-1)=((xs.length:Nat):Int)/\IntKind.i64=IntKind.i64;rw[qA,qJ,qO _ (by omega)];exact⟨by omega,rfl⟩
 .exact⟨trivial,⟨rfl,rfl,rfl,trivial⟩,⟨rfl,pR _⟩,rfl,trivial⟩
theorem Sw(ds:List Int)(hd:ds.length<=1048576):aA Tryz.prog 149 [.sl 10000] [.row 10000 2 1 (.int .i64) ds []] (.sl 10001) [.row 10001 2 1 (.int .i64) ds [],.row 10000 2 1 (.int .i64) ds []]:=
 aA.Ey (ts2:=[.row 10001 2 1 (.int .i64) ds []]) aG [0] wZ (MQ ds hd) rfl rfl rfl
theorem Y1(xs:aS)(us:bW)(bk:List (El aZ))(kv:kT)(k l v:Int)(n:Nat)(ds:List Int)(hl:xs.length<=1000000)(hn:n<=1000000)(hd:ds.length<=1000000):aA Tryz.prog 186 [.ptr 10000 0,.int .i64 k,.int .i64 l,.int .i64 v,.sl 10003,.int .i64 (n:Nat)] (tW xs us bk kv++[.row 10003 2 1 (.int .i64) ds []]) (.int .i64 (xs.length:Nat)) (VN 10004 (xs++[bf k l v ds n]) us bk kv):=by
 refine aA.intro (nt:=39) aG mixed UK Tryz.func186 rfl rfl rfl rfl rfl rfl ?_;refine oY (Sw ds (by omega)) ?_;refine aI ⟨by omega,Int.le_refl _,by omega⟩ ?_;refine aI (by show xs.length+1<=_;omega) ?_;refine aI (by kernel_rfl) ?_;refine fin [(10004,28)] (aI ?_ ?_)
 .show IntKind.i64.wrap (((xs++[bf k l v ds n]).length:Nat)-1)=((xs.length:Nat):Int)/\IntKind.i64=IntKind.i64;rw[qA,qJ,qO _ (by omega)];exact⟨by omega,rfl⟩
 .exact⟨trivial,⟨rfl,rfl,rfl,trivial⟩,⟨rfl,pR _⟩,rfl,trivial⟩
theorem WE(xs:aS)(us:bW)(y:Int)(hdr:Value)(hy:Ah xs us y 5 3 hdr)(hd:(ah xs y).data.length<=1048576):aA Tryz.prog 149 [.nh y 3 (ah xs y).data.length hdr] [.row 10000 117 5 aD xs us] (.sl 10001) [.row 10001 2 1 (.int .i64) (ah xs y).data [],.row 10000 117 5 aD xs us]:=
 aA.Ey (ts2:=[.row 10001 2 1 (.int .i64) (ah xs y).data []]) aG [0] wZ (eI 10000 (aI hy (MQ (ah xs y).data hd))) rfl rfl rfl
theorem Yn(xs:aS)(us:bW)(bk:List (El aZ))(kv:kT)(k l v:Int)(n:Nat)(y:Int)(hdr:Value)(hl:xs.length<=1000000)(hn:n<=1000000)(hy:Ah xs us y 5 3 hdr)(hd:(ah xs y).data.length<=1000000):aA Tryz.prog 186 [.ptr 10000 0,.int .i64 k,.int .i64 l,.int .i64 v,.nh y 3 (ah xs y).data.length hdr,.int .i64 (n:Nat)] (tW xs us bk kv) (.int .i64 (xs.length:Nat)) (VN 10003 (xs++[bf k l v (ah xs y).data n]) us bk kv):=by
 refine aA.intro (nt:=39) aG mixed UK Tryz.func186 rfl rfl rfl rfl rfl rfl ?_;refine oY (WE xs us y hdr hy (by omega)) ?_;refine aI ⟨by omega,Int.le_refl _,by omega⟩ ?_;refine aI (by show xs.length+1<=_;omega) ?_;refine aI (by kernel_rfl) ?_;refine fin [(10003,28)] (aI ?_ ?_)
 .show IntKind.i64.wrap (((xs++[bf k l v (ah xs y).data n]).length:Nat)-1)=((xs.length:Nat):Int)/\IntKind.i64=IntKind.i64;rw[qA,qJ,qO _ (by omega)];exact⟨by omega,rfl⟩
 .exact⟨trivial,⟨rfl,rfl,rfl,trivial⟩,⟨rfl,pR _⟩,rfl,trivial⟩
theorem HY:bH Tryz.prog 217=true:=by kernel_rfl
theorem FB(xs:aS)(b:Int)(h:dK xs)(hb:0<=b/\b<=8)(hlv:∀i:Nat,0<=(ah xs i).2.1/\(ah xs i).2.1<=8)(hok:eX b xs=true):aA Tryz.prog 217 [.agg [.rsl aD xs],.int .i64 b] [] (.tup [.agg [.sl 10000],.bool true]) [.row 10000 117 5 aD (bU b xs) []]:=by
 refine aA.intro (nt:=43) aG mixed HY Tryz.func217 rfl rfl rfl rfl rfl rfl ?_;refine oY (DK xs h) ?_;refine lp Nat (fun i=>[(14,.int .i64 (i:Nat)),(12,.sl 20000)]) (fun i=>[.dL 4 37 [.raw (.slice none 0 0)],.dL 6 37 [.sl 20000],.row 20000 117 5 aD (eY b xs i) []]) (fun i=>xs.length-i) (fun i=>i<=xs.length/\eX b (xs.take i)=true) 0 ⟨Nat.zero_le _,rfl⟩ ?_ ?_
 .exact hd [(20000,10)] rfl (aI (aI rfl rfl) (aI rfl trivial)) ⟨trivial,⟨rfl,trivial⟩,trivial,⟨rfl,trivial⟩,⟨rfl,nP⟩,trivial⟩
 intro i ⟨hi,hi2⟩;refine aI (fun q1=> ?_) (fun q1=> ?_)
 .have hlt:i<xs.length:=by simpa using q1
  refine aI ⟨by omega,by rw[nT];omega⟩ ?_;refine oZ (Da _) ?_;have hat:ah (eY b xs i) (i:Nat)=ah xs (i:Nat):=Fy hlt;refine aI (fun q2=> ?_) (fun q2=> ?_)
  .have q3:(!(bX (ah (eY b xs i) (i:Nat)).1))=true:=q2;rw[hat]at q3;have hlev:bX (ah xs (i:Nat)).1=false:=by simpa using q3
   refine aY (i+1) ⟨hlt,?_⟩ ?_ ?_
   .rw[ng hlt,hi2,hlev];rfl
   .exact hd [] rfl (aI (aI (dG (by have:=h.1;omega)) rfl) (aI rfl trivial)) ⟨trivial,⟨rfl,trivial⟩,trivial,⟨rfl,trivial⟩,⟨(Fz hlt hlev).symm,nP⟩,trivial⟩
   .show xs.length-(i+1)<xs.length-i;omega
  .have q3:(!(bX (ah (eY b xs i) (i:Nat)).1))=false:=q2;rw[hat]at q3;have hlev:bX (ah xs (i:Nat)).1=true:=by simpa using q3
   have hl2:=hlv i;have hw:IntKind.i64.wrap ((ah xs (i:Nat)).2.1+b)=(ah xs (i:Nat)).2.1+b:=qO _ (by omega)
   have hset:(eY b xs i).set i ((ah (eY b xs i) (i:Nat)).1,IntKind.i64.wrap ((ah (eY b xs i) (i:Nat)).2.1+b),(ah (eY b xs i) (i:Nat)).2.2)=eY b xs (i+1):=by
    rw[zm hlt,hat,hw];unfold jy;rw[show bX (ah xs (i:Nat)).kind=true from hlev];rfl
   have hlv2:(ah ((eY b xs i).set i ((ah (eY b xs i) (i:Nat)).1,IntKind.i64.wrap ((ah (eY b xs i) (i:Nat)).2.1+b),(ah (eY b xs i) (i:Nat)).2.2)) (i:Nat)).2.1=(ah xs (i:Nat)).2.1+b:=by
    rw[lu,if_pos ⟨by simp,by rw[nT];exact hlt⟩,hat,hw]
   refine aI (fun q4=> ?_) (fun q4=> ?_)
   all_goals have q5:=q4
   all_goals replace q5:=(congrArg (fun z:Int=>decide ((8:Int)<z)) hlv2).symm.trans q5
   .exfalso;have h1:=JU hok (i+1);rw[ng hlt,hlev]at h1;have q6:(8:Int)<(ah xs (i:Nat)).2.1+b:=by simpa using q5
    simp at h1;omega
   .have hle:(ah xs (i:Nat)).2.1+b<=8:=by simpa using q5
    refine aY (i+1) ⟨hlt,?_⟩ ?_ ?_
    .rw[ng hlt,hi2,hlev];simpa using hle
    .exact hd [] rfl (aI (aI (dG (by have:=h.1;omega)) rfl) (aI rfl trivial)) ⟨trivial,⟨rfl,trivial⟩,trivial,⟨rfl,trivial⟩,⟨hset,nP⟩,trivial⟩
    .show xs.length-(i+1)<xs.length-i;omega
 .have hge:xs.length<=i:=by
   have q2:decide (((i:Nat):Int)<((eY b xs 0).length:Nat))=false:=q1;rw[nT]at q2;simpa using q2
  have hie:i=xs.length:=by omega
  refine fin [(10000,20000)] (aI rfl ?_);refine⟨⟨?_,nP⟩,trivial⟩;show eY b xs i=bU b xs;rw[hie];unfold eY bU;simp
theorem LW(xs:aS)(b:Int)(h:dK xs)(hb:0<=b/\b<=8)(hlv:∀i:Nat,0<=(ah xs i).2.1/\(ah xs i).2.1<=8)(hok:eX b xs=false):aA Tryz.prog 217 [.agg [.rsl aD xs],.int .i64 b] [] (.tup [.agg [.raw (.slice none 0 0)],.bool false]) []:=by
 refine aA.intro (nt:=43) aG mixed HY Tryz.func217 rfl rfl rfl rfl rfl rfl ?_;refine oY (DK xs h) ?_;refine lp Nat (fun i=>[(14,.int .i64 (i:Nat)),(12,.sl 20000)]) (fun i=>[.dL 4 37 [.raw (.slice none 0 0)],.dL 6 37 [.sl 20000],.row 20000 117 5 aD (eY b xs i) []]) (fun i=>xs.length-i) (fun i=>i<=xs.length/\eX b (xs.take i)=true) 0 ⟨Nat.zero_le _,rfl⟩ ?_ ?_
 .exact hd [(20000,10)] rfl (aI (aI rfl rfl) (aI rfl trivial)) ⟨trivial,⟨rfl,trivial⟩,trivial,⟨rfl,trivial⟩,⟨rfl,nP⟩,trivial⟩
 intro i ⟨hi,hi2⟩;refine aI (fun q1=> ?_) (fun q1=> ?_)
 .have hlt:i<xs.length:=by simpa using q1
  refine aI ⟨by omega,by rw[nT];omega⟩ ?_;refine oZ (Da _) ?_;have hat:ah (eY b xs i) (i:Nat)=ah xs (i:Nat):=Fy hlt;refine aI (fun q2=> ?_) (fun q2=> ?_)
  .have q3:(!(bX (ah (eY b xs i) (i:Nat)).1))=true:=q2;rw[hat]at q3;have hlev:bX (ah xs (i:Nat)).1=false:=by simpa using q3
   refine aY (i+1) ⟨hlt,?_⟩ ?_ ?_
   .rw[ng hlt,hi2,hlev];rfl
   .exact hd [] rfl (aI (aI (dG (by have:=h.1;omega)) rfl) (aI rfl trivial)) ⟨trivial,⟨rfl,trivial⟩,trivial,⟨rfl,trivial⟩,⟨(Fz hlt hlev).symm,nP⟩,trivial⟩
   .show xs.length-(i+1)<xs.length-i;omega
  .have q3:(!(bX (ah (eY b xs i) (i:Nat)).1))=false:=q2;rw[hat]at q3;have hlev:bX (ah xs (i:Nat)).1=true:=by simpa using q3
   have hl2:=hlv i;have hw:IntKind.i64.wrap ((ah xs (i:Nat)).2.1+b)=(ah xs (i:Nat)).2.1+b:=qO _ (by omega)
   have hset:(eY b xs i).set i ((ah (eY b xs i) (i:Nat)).1,IntKind.i64.wrap ((ah (eY b xs i) (i:Nat)).2.1+b),(ah (eY b xs i) (i:Nat)).2.2)=eY b xs (i+1):=by
    rw[zm hlt,hat,hw];unfold jy;rw[show bX (ah xs (i:Nat)).kind=true from hlev];rfl
   have hlv2:(ah ((eY b xs i).set i ((ah (eY b xs i) (i:Nat)).1,IntKind.i64.wrap ((ah (eY b xs i) (i:Nat)).2.1+b),(ah (eY b xs i) (i:Nat)).2.2)) (i:Nat)).2.1=(ah xs (i:Nat)).2.1+b:=by
    rw[lu,if_pos ⟨by simp,by rw[nT];exact hlt⟩,hat,hw]
   refine aI (fun q4=> ?_) (fun q4=> ?_)
   all_goals have q5:=q4
   all_goals replace q5:=(congrArg (fun z:Int=>decide ((8:Int)<z)) hlv2).symm.trans q5
   .refine fin [] (aI rfl trivial)
   .have hle:(ah xs (i:Nat)).2.1+b<=8:=by simpa using q5
    refine aY (i+1) ⟨hlt,?_⟩ ?_ ?_
    .rw[ng hlt,hi2,hlev];simpa using hle
    .exact hd [] rfl (aI (aI (dG (by have:=h.1;omega)) rfl) (aI rfl trivial)) ⟨trivial,⟨rfl,trivial⟩,trivial,⟨rfl,trivial⟩,⟨hset,nP⟩,trivial⟩
    .show xs.length-(i+1)<xs.length-i;omega
 .have hge:xs.length<=i:=by
   have q2:decide (((i:Nat):Int)<((eY b xs 0).length:Nat))=false:=q1;rw[nT]at q2;simpa using q2
  have hie:i=xs.length:=by omega
  exfalso;rw[hie,List.take_length]at hi2;rw[hi2]at hok;cases hok
theorem PI:bH Tryz.prog 181=true:=by kernel_rfl
theorem DJ(xs:aS)(p:Int×Int)(h1:0<=p.1/\p.1<(xs.length:Nat))(h2:0<=p.2/\p.2<(xs.length:Nat)):aJ Tryz.prog 146 [.rp aZ xs,vP p] (.tup [.int .i64 (bn (ah xs p.1) (ah xs p.2)).1,.bool (bn (ah xs p.1) (ah xs p.2)).2]):=Sq xs p h1 h2
theorem Zd(xs:aS)(bk:iQ)(m:Value)(p:Int×Int)(h1:0<=p.1/\p.1<(xs.length:Nat))(h2:0<=p.2/\p.2<(xs.length:Nat))(hb:Iz bk)(hs:∀i:Nat,dK (bG bk i))
  (hx:(bn (ah xs p.1) (ah xs p.2)).1=7->0<=(ah xs (bif (bn (ah xs p.1) (ah xs p.2)).2 then p.2 else p.1)).2.2.1/\0<=(ah xs (bif (bn (ah xs p.1) (ah xs p.2)).2 then p.2 else p.1)).2.1/\(ah xs (bif (bn (ah xs p.1) (ah xs p.2)).2 then p.2 else p.1)).2.1<=8):
  aJ Tryz.prog 181 [.rp Zb0 (xs,(bk,m)),vP p] (.tup [.int .i64 (checkN bk xs p).1,.int .i64 (checkN bk xs p).2.1,.int .i64 (checkN bk xs p).2.2.1,.int .i64 (checkN bk xs p).2.2.2]):=by
 refine aJ.intro (nt:=67) aG mixed PI Tryz.func181 rfl rfl rfl rfl rfl ?_;refine oZ (DJ xs p h1 h2) ?_;refine aI (by kernel_rfl) ?_;refine aI (by kernel_rfl) ?_;generalize hc:bn (ah xs p.1) (ah xs p.2)=c at*
 have hbk:∀x:Int,0<=x->(∀j:Nat,0<=(ah (bG bk x) j).2.1/\(ah (bG bk x) j).2.1<=8)/\dK (bG bk x):=fun x h=>by
  have e:bG bk x=bG bk (x.toNat:Nat):=by unfold bG;exact OW (by omega)
  rw[e];exact⟨hb _,hs _⟩
 refine aI (fun q1=> ?_) (fun q1=> ?_)
 .have q1':c.2=true:=q1;rw[q1']at hx;have hx7:c.1=7->0<=(ah xs p.2).2.2.1/\0<=(ah xs p.2).2.1/\(ah xs p.2).2.1<=8:=hx;refine aI (fun q2=> ?_) (fun q2=> ?_)
  .have q2':c.1=8:=by have q3:(c.1==8)=true:=q2;simpa using q3
   have e:checkN bk xs p=(0,0,0,11):=by simp[checkN,hc,q1',q2']
   rw[e];exact rfl
  have q2':c.1≠8:=by have q3:(c.1==8)=false:=q2;simpa using q3
  refine aI (fun q3=> ?_) (fun q3=> ?_)
  .have q3':c.1=7:=by have q4:(c.1==7)=true:=q3;simpa using q4
   obtain⟨v0,l0,l1⟩:=hx7 q3';refine aI h2 ?_;refine aI (by kernel_rfl) ?_;refine aI (fun q4=> ?_) (fun q4=> ?_)
   .have q4':(bk.length:Int)<=(ah xs p.2).2.2.1:=by have q5:decide ((bk.length:Int)<=(ah xs p.2).2.2.1)=true:=q4;simpa using q5
    have e:checkN bk xs p=(0,0,0,3):=by simp[checkN,hc,q1',q3',q4']
    rw[e];exact rfl
   have q4':(ah xs p.2).2.2.1<(bk.length:Nat):=by have q5:decide ((bk.length:Int)<=(ah xs p.2).2.2.1)=false:=q4;simpa using q5
   have q4n:¬((bk.length:Int)<=(ah xs p.2).2.2.1):=by omega
   refine aI ⟨v0,q4'⟩ ?_;obtain⟨k1,k2⟩:=hbk _ v0;cases hso:eX (ah xs p.2).2.1 (bG bk (ah xs p.2).2.2.1)with
   |true=>
    refine oY (FB (bG bk (ah xs p.2).2.2.1) (ah xs p.2).2.1 k2 ⟨l0,l1⟩ k1 hso) ?_;refine aI (by kernel_rfl) ?_;refine aI (fun q5=>by cases q5) (fun q5=> ?_);have e:checkN bk xs p=(c.1,p.2,p.1,0):=by simp[checkN,hc,q1',q3',q4n,hso]
    rw[e];exact rfl
   |false=>
    refine oY (LW (bG bk (ah xs p.2).2.2.1) (ah xs p.2).2.1 k2 ⟨l0,l1⟩ k1 hso) ?_;refine aI (by kernel_rfl) ?_;refine aI (fun q5=> ?_) (fun q5=>by cases q5);have e:checkN bk xs p=(0,0,0,9):=by simp[checkN,hc,q1',q3',q4n,hso]
    rw[e];exact rfl
  .have q3':c.1≠7:=by have q4:(c.1==7)=false:=q3;simpa using q4
   have e:checkN bk xs p=(c.1,p.2,p.1,0):=by have b2:(c.1==8)=false:=q2;have b3:(c.1==7)=false:=q3;simp only[checkN,hc,q1',b2,b3,qG,qH]
   rw[e];exact rfl
 .have q1':c.2=false:=q1;rw[q1']at hx;have hx7:c.1=7->0<=(ah xs p.1).2.2.1/\0<=(ah xs p.1).2.1/\(ah xs p.1).2.1<=8:=hx;refine aI (fun q2=> ?_) (fun q2=> ?_)
  .have q2':c.1=8:=by have q3:(c.1==8)=true:=q2;simpa using q3
   have e:checkN bk xs p=(0,0,0,11):=by simp[checkN,hc,q1',q2']
   rw[e];exact rfl
  have q2':c.1≠8:=by have q3:(c.1==8)=false:=q2;simpa using q3
  refine aI (fun q3=> ?_) (fun q3=> ?_)
  .have q3':c.1=7:=by have q4:(c.1==7)=true:=q3;simpa using q4
   obtain⟨v0,l0,l1⟩:=hx7 q3';refine aI h1 ?_;refine aI (by kernel_rfl) ?_;refine aI (fun q4=> ?_) (fun q4=> ?_)
   .have q4':(bk.length:Int)<=(ah xs p.1).2.2.1:=by have q5:decide ((bk.length:Int)<=(ah xs p.1).2.2.1)=true:=q4;simpa using q5
    have e:checkN bk xs p=(0,0,0,3):=by simp[checkN,hc,q1',q3',q4']
    rw[e];exact rfl
   have q4':(ah xs p.1).2.2.1<(bk.length:Nat):=by have q5:decide ((bk.length:Int)<=(ah xs p.1).2.2.1)=false:=q4;simpa using q5
   have q4n:¬((bk.length:Int)<=(ah xs p.1).2.2.1):=by omega
   refine aI ⟨v0,q4'⟩ ?_;obtain⟨k1,k2⟩:=hbk _ v0;cases hso:eX (ah xs p.1).2.1 (bG bk (ah xs p.1).2.2.1)with
   |true=>
    refine oY (FB (bG bk (ah xs p.1).2.2.1) (ah xs p.1).2.1 k2 ⟨l0,l1⟩ k1 hso) ?_;refine aI (by kernel_rfl) ?_;refine aI (fun q5=>by cases q5) (fun q5=> ?_);have e:checkN bk xs p=(c.1,p.1,p.2,0):=by simp[checkN,hc,q1',q3',q4n,hso]
    rw[e];exact rfl
   |false=>
    refine oY (LW (bG bk (ah xs p.1).2.2.1) (ah xs p.1).2.1 k2 ⟨l0,l1⟩ k1 hso) ?_;refine aI (by kernel_rfl) ?_;refine aI (fun q5=> ?_) (fun q5=>by cases q5);have e:checkN bk xs p=(0,0,0,9):=by simp[checkN,hc,q1',q3',q4n,hso]
    rw[e];exact rfl
  .have q3':c.1≠7:=by have q4:(c.1==7)=false:=q3;simpa using q4
   have e:checkN bk xs p=(c.1,p.1,p.2,0):=by have b2:(c.1==8)=false:=q2;have b3:(c.1==7)=false:=q3;simp only[checkN,hc,q1',b2,b3,qG,qH]
   rw[e];exact rfl
theorem UO:bH Tryz.prog 182=true:=by kernel_rfl
theorem Zbb(xs:aS)(bk:iQ)(m:Value)(c x y:Int)(hx:0<=x/\x<(xs.length:Nat))(hy:0<=y/\y<(xs.length:Nat))(h7:c=7->0<=(ah xs x).2.2.1/\(ah xs x).2.2.1<(bk.length:Nat)):
  aJ Tryz.prog 182 [.rp Zb0 (xs,(bk,m)),.int .i64 c,.int .i64 x,.int .i64 y] (.int .i64 (tZ bk xs c x y)):=by
 refine aJ.intro (nt:=76) aG mixed UO Tryz.func182 rfl rfl rfl rfl rfl ?_;refine aI (fun q1=> ?_) (fun q1=> ?_)
 .refine aI (fun _=> ?_) (fun h=>by rw[show(c==3)=true from q1]at h;cases h);refine aI hy ?_;refine oZ (xU _ _) ?_;refine⟨?_,rfl⟩;simp only[tZ,q1,qG];rfl
 refine aI (fun q2=> ?_) (fun q2=> ?_)
 .refine aI hy ?_;refine oZ (xU _ _) ?_;refine⟨?_,rfl⟩;simp only[tZ,q1,q2,qG,qH];rfl
 refine aI (fun q3=> ?_) (fun q3=> ?_)
 .refine aI hx ?_;refine aI (fun q4=> ?_) (fun q4=> ?_)
  .refine aI hx ?_;refine oZ (xU _ _) ?_;refine⟨?_,rfl⟩;have q4':((ah xs x).1==9)=true:=q4;simp only[tZ,q1,q2,q3,q4',qG,qH];rfl
  .refine oZ (xU _ _) ?_;refine⟨?_,rfl⟩;have q4':((ah xs x).1==9)=false:=q4;simp only[tZ,q1,q2,q3,q4',qG,qH]
 refine aI (fun q4=> ?_) (fun q4=> ?_)
 .have q4':c=7:=by have q5:(c==7)=true:=q4;simpa using q5
  refine aI hx ?_;refine aI (h7 q4') ?_;refine aI (by kernel_rfl) ?_;refine oZ (xU _ _) ?_;refine⟨?_,rfl⟩;simp only[tZ,q1,q2,q3,q4,qG,qH];rfl
 .refine oZ (xU _ _) ?_;refine⟨?_,rfl⟩;simp only[tZ,q1,q2,q3,q4,qG,qH]
theorem UN:bH Tryz.prog 189=true:=by kernel_rfl
def QK(g:Nat)(bk:List (List ak))(kv:List (Int×Bool))(q:aC)(l:List Tok):List Tok:=.dL 10000 130 [.sl g,.rsl aZ bk,.mp 10002]:: .map 10002 .bool kv:: .dL 6 37 [.sl 38]:: .dL 9 119 [.int .i64 q.1,.int .i64 q.2]::l
def exL(g:Nat)(xs:List ak)(us:List Value)(hs:List (El (hol 5)))(ys:List ak)(usB:List Value):List Tok:=[.row g 117 5 (hol 5) (lK xs.length us++hs) us,.nest 20001 aD xs us,.row 38 117 5 aD ys usB]
def exT(b:Int)(t xs:List ak)(us:List Value)(bk:List (List ak))(kv:List (Int×Bool))(q:aC)(s:Nat×List Value):List Tok:=match s.1 with
 |0=>QK 20000 bk kv q [.row 20000 117 5 aD xs us,.row 38 117 5 aD t []]
 |k+1=>QK 20000 bk kv q (exL 20000 xs us (MX t s.2 (k+1)) (tu b t (k+1)) s.2)
def exG(b:Int)(t xs:List ak)(us:List Value)(bk:List (List ak))(kv:List (Int×Bool))(q:aC)(s:Nat×List Value)(K:List Tok->Prop):Prop:=
 (s.1+1<t.length->∀usB:List Value,(s.1=0->usB.length=t.length*5)->(s.1≠0->usB=s.2)->K (QK 20000 bk kv q (exL 20000 xs us (MX t usB s.1) (tu b t s.1) usB)))/\
 (t.length<=s.1+1->(t.length=s.1+1/\s.2.length=t.length*5)/\K (QK 20000 bk kv q [.row 20000 117 5 aD (xs++(tu b t s.1).drop 1) us]))
theorem zT{β:Nat->Value}{cx:Cx}{g:Nat}{bk:iQ}{kv:kT}{q:aC}{l:List Tok}{R:List eH}:(((QK g bk kv q l).map (Tok.res cx β))++R).Perm (l.map (Tok.res cx β)++((QK g bk kv q []).map (Tok.res cx β)++R)):=by
 have:((QK g bk kv q []).map (Tok.res cx β)++(l.map (Tok.res cx β)++R)).Perm (l.map (Tok.res cx β)++((QK g bk kv q []).map (Tok.res cx β)++R)):=by
  rw[<-qF,<-qF];exact List.Perm.append_right _ List.perm_append_comm
 exact this
theorem Za8{b:Int}{t xs:aS}{us:bW}{bk:iQ}{kv:kT}{q:aC}(hl:us.length=xs.length*5)(h2:2<=t.length)(s:Nat×bW)(K:List Tok->Prop)(cx:Cx)(β:Nat->Value)(w:World)(R:List eH)
  (h:exG b t xs us bk kv q s K) (hI:Inv cx.w0 cx.F0 w ((exT b t xs us bk kv q s).map (Tok.res cx β)++R)):∃rs',K rs'/\Inv cx.w0 cx.F0 w (rs'.map (Tok.res cx β)++R):=by
 obtain⟨k,usB⟩:=s
 match k with
 |0=>
  have h1:=h.1 (by show 0+1<t.length;omega);have hI1:=hI.perm zT;have hI2:Inv cx.w0 cx.F0 w (Tok.res cx β (.row 20000 117 5 aD xs us)::(Tok.res cx β (.row 38 117 5 aD t [])::((QK 20000 bk kv q []).map (Tok.res cx β)++R))):=hI1;have hI3:=Inv.ZA (n:=20001) hI2 hl;have hI4:=hI3.perm ((List.Perm.cons _ (List.Perm.swap _ _ _)).trans (List.Perm.swap _ _ _));obtain⟨F,⟨hus,bs,raw,e,hg,hpre⟩,k2,_⟩:=Inv.take1 (r:=Tok.res cx β (.row 38 117 5 aD t [])) hI4;have hI5:Inv cx.w0 cx.F0 w (Tok.res cx β (.row 38 117 5 aD t raw)::_):=k2 _ F (fun _ h=>h) ⟨hus,bs,raw,e,hg,pR _⟩
  have hI6:=hI5.perm ((List.Perm.swap _ _ _).trans (List.Perm.cons _ (List.Perm.swap _ _ _)));refine⟨_,h1 raw (fun _=>hg.row.1) (fun h=>absurd rfl h),Inv.perm (rs:=(exL 20000 xs us (MX t raw 0) (tu b t 0) raw).map (Tok.res cx β)++((QK 20000 bk kv q []).map (Tok.res cx β)++R)) ?_ zT.symm⟩;show Inv cx.w0 cx.F0 w (Tok.res cx β (.row 20000 117 5 (hol 5) (lK xs.length us++[]) us)::(Tok.res cx β (.nest 20001 aD xs us)::(Tok.res cx β (.row 38 117 5 aD t raw)::((QK 20000 bk kv q []).map (Tok.res cx β)++R))));rw[qS];exact hI6
 |k+1=>
  by_cases hk:k+1+1<t.length
  .exact⟨_,h.1 hk usB (fun e=>by cases e) (fun _=>rfl),hI⟩
  .obtain⟨⟨hk2,h3⟩,h4⟩:=h.2 (by show t.length<=k+1+1;omega);have hm:(tu b t (k+1)).length=t.length:=sK _;have hk3:t.length=k+1+1:=hk2;have hI2:Inv cx.w0 cx.F0 w (Tok.res cx β (.row 20000 117 5 (hol 5) (lK xs.length us++MX t usB (k+1)) us)::(Tok.res cx β (.nest 20001 aD xs us)::(Tok.res cx β (.row 38 117 5 aD (tu b t (k+1)) usB)::((QK 20000 bk kv q []).map (Tok.res cx β)++R)))):=hI.perm zT;have hI3:=Inv.merge hI2 hl (by rw[hm];exact h3) (by omega) (by rw[hm,hk3];exact WX _);exact⟨_,h4,Inv.perm hI3 (zT (l:=[.row 20000 117 5 aD (xs++(tu b t (k+1)).drop 1) us])).symm⟩
theorem expI(t0:aS)(xs:aS)(us:bW)(bk:iQ)(kv:kT)(x y:Int)(hx:0<=x/\x<(xs.length:Nat))(hv:0<=(ah xs x).2.2.1/\(ah xs x).2.2.1<(bk.length:Nat))(ht0:bG bk (ah xs x).2.2.1=t0)(hl:xs.length<=900000)(hs:dK t0)(ht:2<=t0.length)(htl:t0.length<=1000)(hr:aj t0 (0,0))(hlv:0<=(ah xs x).2.1/\(ah xs x).2.1<=8)(hlt8:∀i:Nat,0<=(ah t0 i).2.1/\(ah t0 i).2.1<=8)
  (hok:eX (ah xs x).2.1 t0=true) (hpt:∀i j:Nat,AQ (elt (dflt aK) (ah (bU (ah xs x).2.1 t0) (i:Nat)).2.2.2.2 (j:Nat)).1) (hps:∀i:Nat,(ah (bU (ah xs x).2.1 t0) (i:Nat)).2.2.2.2.length<=1048576) (hr2:aj (bU (ah xs x).2.1 t0) (0,0))
  (hy:aj (xs++((mJ bk xs x).drop 1).map (bP ((xs.length:Nat)-1))) (y,0)) (htop:aj (xs++((mJ bk xs x).drop 1).map (bP ((xs.length:Nat)-1))) ((ay (mJ bk xs x) (0,0)).1+((xs.length:Nat)-1),(ay (mJ bk xs x) (0,0)).2)):
  aA Tryz.prog 189 [.ptr 10000 0,.int .i64 x,.int .i64 y] (tW xs us bk kv) (.tup []) (VN 10003 (jO bk xs x y) us bk kv):=by
 refine aA.gK 10001 UN ?_;refine aI (fun _ us' hpre hlen=> ?_) (fun h=>absurd rfl h);have hT:mJ bk xs x=bU (ah xs x).2.1 t0:=by unfold mJ;rw[ht0]
 have hq:aA Tryz.prog 110 [.ptr 10000 0,vP (0,0)] [.dL 10000 37 [.sl 10001],.row 10001 117 5 aD (bU (ah xs x).2.1 t0) []] (vP (ay (bU (ah xs x).2.1 t0) (0,0))) [.dL 10000 37 [.sl 10001],.row 10001 117 5 aD (bU (ah xs x).2.1 t0) []]:=
  aA.vC aG [64,0] Nq (PV _ _ hr2) rfl
 rw[hT]at hy htop;have hsh:=FB t0 (ah xs x).2.1 hs hlv hlt8 hok;generalize hte:bU (ah xs x).2.1 t0=t at*;have htn:t.length=t0.length:=by rw[<-hte];unfold bU;simp
 generalize hqe:ay t (0,0)=q at*;refine aA.intro (nt:=101) aG mixed UN Tryz.func189 rfl rfl rfl rfl rfl rfl ?_;refine aI hx ?_;refine aI hv ?_;refine aI hx ?_;have hsh2:aA Tryz.prog 217 [.agg [.rsl aD (bG bk (ah xs x).2.2.1)],.int .i64 (ah xs x).2.1] [] (.tup [.agg [.sl 10000],.bool true]) [.row 10000 117 5 aD t []]:=by rw[ht0];exact hsh
 refine oY hsh2 ?_;refine aI (by kernel_rfl) ?_;refine oY hq ?_;refine aI (show(0:Int)<=1/\(1:Int)<(t.length:Nat) by omega) ?_;have hwb:IntKind.i64.wrap ((xs.length:Nat)-1)=((xs.length:Nat)-1:Int):=qO _ (by omega);generalize hbe:((xs.length:Nat)-1:Int)=b at*;refine lpG (Nat×List Value) (fun s=>[(54,.int .i64 (s.1:Nat)),(8,.int .i64 b)]) (exT b t xs us' bk kv q) (fun s=>t.length-s.1) (fun s=>s.1+1<=t.length/\(s.1≠0->s.2.length=t.length*5)) (0,[]) (exG b t xs us' bk kv q) (Za8 hlen (by omega)) ⟨by show 0+1<=_;omega,fun h=>absurd rfl h⟩ ?_ ?_
 .exact hd [(20000,10001)] rfl (aI (aI rfl rfl) (aI (aI hwb rfl) trivial)) ⟨trivial,⟨rfl,rfl,rfl,trivial⟩,rfl,trivial,⟨rfl,trivial⟩,trivial,⟨⟨rfl,rfl⟩,⟨rfl,rfl⟩,trivial⟩,⟨rfl,pR _⟩,⟨rfl,nP⟩,trivial⟩
 intro s ⟨hs1,hs2⟩;refine aI (fun hlt usB hB0 hB1=> ?_) (fun hge=>aI ?_ ?_)
 .have hB:usB.length=t.length*5:=by
   by_cases h:s.1=0
   .exact hB0 h
   .rw[hB1 h];exact hs2 h
  obtain⟨k,usS⟩:=s;refine aI (fun q1=> ?_) (fun q1=> ?_)
  .have hlt':k+1<t.length:=hlt;have hi0:(0:Int)<=((1+k:Nat):Int):=by omega
   have hi1:((1+k:Nat):Int)<((tu b t k).length:Nat):=by rw[sK];omega
   have hBm:usB.length=(tu b t k).length*5:=by rw[sK];exact hB
   refine aI (show(0:Int)<=(k:Nat)/\((k:Nat):Int)<((t.length-1:Nat):Int) by omega) ?_;refine aI (vZ hBm hi0 hi1) ?_;refine lp Nat (fun j=>[(61,.int .i64 (j:Nat))]) (fun j=>.dL 11 117 [.int .i64 (ah (tu b t k) ((1+k:Nat):Int)).1,.int .i64 (ah (tu b t k) ((1+k:Nat):Int)).2.1,.int .i64 (ah (tu b t k) ((1+k:Nat):Int)).2.2.1,.nh ((1+k:Nat):Int) 3 (ah (tu b t k) ((1+k:Nat):Int)).2.2.2.1.length (usB.getD ((1+k)*5+3) undef),.nh ((1+k:Nat):Int) 4 (ah (tu b t k) ((1+k:Nat):Int)).2.2.2.2.length (usB.getD ((1+k)*5+4) undef)]::QK 21000 bk kv q (exL 21000 xs us' (MX t usB k) (Er b t k j) usB)) (fun j=>(ah t ((1+k:Nat):Int)).2.2.2.2.length-j) (fun j=>j<=(ah t ((1+k:Nat):Int)).2.2.2.2.length) 0 (Nat.zero_le _) ?_ ?_
   .exact hd [(21000,20000)] rfl (aI (aI rfl rfl) trivial) ⟨trivial,⟨⟨rfl,rfl⟩,⟨rfl,rfl⟩,⟨rfl,rfl⟩,rfl,rfl,trivial⟩,trivial,⟨rfl,rfl,rfl,trivial⟩,rfl,trivial,⟨rfl,trivial⟩,trivial,⟨⟨rfl,rfl⟩,⟨rfl,rfl⟩,trivial⟩,⟨rfl,pR _⟩,⟨rfl,rfl⟩,⟨(Us k).symm,pR _⟩,trivial⟩
   intro j hj;have hae:ah (tu b t k) ((1+k:Nat):Int)=ah t ((1+k:Nat):Int):=ZH (by omega);have hi2:((1+k:Nat):Int)<((Er b t k j).length:Nat):=by rw[Pv];omega
   have hBm2:usB.length=(Er b t k j).length*5:=by rw[Pv];exact hB
   refine aI (fun q3=> ?_) (fun q3=> ?_)
   .have hlt2:j<(ah t ((1+k:Nat):Int)).2.2.2.2.length:=by
     have q4:decide (((j:Nat):Int)<((ah (tu b t k) ((1+k:Nat):Int)).2.2.2.2.length:Nat))=true:=q3;rw[hae]at q4;simpa using q4
    have hbnd:(0:Int)<=(j:Nat)/\((j:Nat):Int)<((ah (tu b t k) ((1+k:Nat):Int)).2.2.2.2.length:Nat):=by rw[hae];omega
    have hnp:Ah (Er b t k j) usB ((1+k:Nat):Int) 5 4 (usB.getD ((1+k)*5+4) undef):=⟨hi0,hi2,sW hBm2 hi0 hi2 (by decide)⟩;have hpv:AQ (elt (dflt aK) (ah t ((1+k:Nat):Int)).2.2.2.2 (j:Nat)).1:=hpt (1+k) j;unfold AQ at hpv;have hpl:=hps (1+k)
    have hw:IntKind.i64.wrap ((elt (dflt aK) (ah (Er b t k j) ((1+k:Nat):Int)).2.2.2.2 (j:Nat)).1+b)=(elt (dflt aK) (ah t ((1+k:Nat):Int)).2.2.2.2 (j:Nat)).1+b:=by
     rw[ZG (by omega) hlt2];exact qO _ (by omega)
    refine aI hbnd ?_;refine eI 38 (aI ⟨hnp,hbnd⟩ ?_);refine aI hbnd ?_;refine eI 38 (aI ⟨hnp,hbnd⟩ ?_);refine aY (j+1) hlt2 ?_ ?_
    .refine hd [] rfl (aI (aI (dG (by omega)) rfl) trivial) ⟨trivial,⟨⟨rfl,rfl⟩,⟨rfl,rfl⟩,⟨rfl,rfl⟩,rfl,rfl,trivial⟩,trivial,⟨rfl,rfl,rfl,trivial⟩,rfl,trivial,⟨rfl,trivial⟩,trivial,⟨⟨rfl,rfl⟩,⟨rfl,rfl⟩,trivial⟩,⟨rfl,pR _⟩,⟨rfl,rfl⟩,⟨Ur (by omega) hlt2 hw,pR _⟩,trivial⟩
    .show(ah t ((1+k:Nat):Int)).2.2.2.2.length-(j+1)<(ah t ((1+k:Nat):Int)).2.2.2.2.length-j;omega
   have hje:j=(ah t ((1+k:Nat):Int)).2.2.2.2.length:=by
    have q4:decide (((j:Nat):Int)<((ah (tu b t k) ((1+k:Nat):Int)).2.2.2.2.length:Nat))=false:=q3;rw[hae]at q4;have q5:(ah t ((1+k:Nat):Int)).2.2.2.2.length<=j:=by simpa using q4
    omega
   refine aI (show(lK xs.length us'++MX t usB k).length+1<=_ by rw[qA,x9,WY];omega) ?_;refine aI (by kernel_rfl) ?_;refine Uk (k+1,usB) ⟨by show k+1+1<=t.length;omega,fun _=>hB⟩ ?_ ?_
   .refine hd [(20000,83)] rfl (aI (aI (dG (by omega)) rfl) (aI (aI rfl rfl) trivial)) ⟨trivial,⟨rfl,rfl,rfl,trivial⟩,rfl,trivial,⟨rfl,trivial⟩,trivial,⟨⟨rfl,rfl⟩,⟨rfl,rfl⟩,trivial⟩,⟨?_,pR _⟩,⟨rfl,rfl⟩,⟨?_,pR _⟩,trivial⟩
    .show(lK xs.length us'++MX t usB k)++([(Value.int .i64 (ah (tu b t k) ((1+k:Nat):Int)).1,Value.int .i64 (ah (tu b t k) ((1+k:Nat):Int)).2.1,Value.int .i64 (ah (tu b t k) ((1+k:Nat):Int)).2.2.1,usB.getD ((1+k)*5+3) undef,usB.getD ((1+k)*5+4) undef)]:List (El (hol 5)))=lK xs.length us'++MX t usB (k+1);rw[Tg,qF,hae];rfl
    .show Er b t k j=tu b t (k+1);rw[hje,Xt]
   .show t.length-(k+1)<t.length-k;omega
  .exfalso;have q2:decide (((k:Nat):Int)<((t.length-1:Nat):Int))=false:=q1;have q3:((t.length-1:Nat):Int)<=((k:Nat):Int):=by simpa using q2
   have hlt':k+1<t.length:=hlt;omega
 .have h1:t.length<=s.1+1:=hge;exact⟨by omega,hs2 (by omega)⟩
 refine aI (fun q1=> ?_) (fun q1=> ?_)
 .exfalso;have q2:decide (((s.1:Nat):Int)<((t.length-1:Nat):Int))=true:=q1;have q3:((s.1:Nat):Int)<((t.length-1:Nat):Int):=by simpa using q2
  have h1:t.length<=s.1+1:=hge;omega
 have h1:t.length<=s.1+1:=hge;have hse:s.1=t.length-1:=by omega
 have hdr:(tu b t s.1).drop 1=(t.drop 1).map (bP b):=by rw[hse];exact Uu
 have hw:IntKind.i64.wrap (q.1+b)=q.1+b:=qO _ (by
  have:=htop.1;have h2:=htop.2.1;simp only[qA,qV,List.length_drop]at h2;omega)
 rw[<-hdr]at hy htop;have hlk:=He (xs++(tu b t s.1).drop 1) us' bk kv (y,0) (q.1+b,q.2) hy htop;rw[<-hw]at hlk;refine oY hlk ?_;refine aI (by kernel_rfl) ?_;refine fin [(10003,20000)] (aI rfl ?_);refine⟨trivial,⟨rfl,rfl,rfl,trivial⟩,⟨?_,hpre⟩,rfl,trivial⟩;show bD (xs++(tu b t s.1).drop 1) (y,0) (IntKind.i64.wrap (q.1+b),q.2)=jO bk xs x y;unfold jO;rw[hw,hT,hdr,hqe,hbe]
theorem Iy(x:Int):aJ Tryz.prog 233 [.int .i64 x] (.int .i64 (nE x)):=by
 refine aJ.intro (nt:=6) aG mixed (by kernel_rfl) Tryz.func233 rfl rfl rfl rfl rfl ?_;exact⟨rfl,rfl⟩
theorem BZ(x:Int):aJ Tryz.prog 224 [.int .i64 x] (.int .i64 (nE x)):=by
 refine aJ.intro (nt:=8) aG mixed (by kernel_rfl) Tryz.func224 rfl rfl rfl rfl rfl ?_;exact⟨RP x,rfl⟩
theorem Oj(b:Bool):aJ Tryz.prog 221 [.bool b] (.int .i64 (bif b then 1 else 0)):=by
 refine aJ.intro (nt:=4) aG mixed (by kernel_rfl) Tryz.func221 rfl rfl rfl rfl rfl ?_;refine aI (fun h=> ?_) (fun h=> ?_)
 .subst h;exact⟨rfl,rfl⟩
 .subst h;exact⟨rfl,rfl⟩
theorem Yo(b:Bool):aJ Tryz.prog 225 [.bool b] (.int .i64 (bif b then 1 else 0)):=by
 refine aJ.intro (nt:=4) aG mixed (by kernel_rfl) Tryz.func225 rfl rfl rfl rfl rfl ?_;refine aI (fun h=> ?_) (fun h=> ?_)
 .subst h;exact⟨rfl,rfl⟩
 .subst h;exact⟨rfl,rfl⟩
theorem U3(o a b:Int):aJ Tryz.prog 220 [.int .i64 o,.int .i64 a,.int .i64 b] (.int .i64 (xZ o a b)):=by
 refine aJ.intro (nt:=52) aG mixed (by kernel_rfl) Tryz.func220 rfl rfl rfl rfl rfl ?_;refine oZ (Iy a) ?_;refine oZ (Iy b) ?_;refine aI (fun h1=> ?_) (fun h1=> ?_)
 .refine oZ (Iy _) ?_;refine⟨?_,rfl⟩;simp only[xZ,h1,qG]
 refine aI (fun h2=> ?_) (fun h2=> ?_)
 .refine oZ (Iy _) ?_;refine⟨?_,rfl⟩;simp only[xZ,h1,h2,qG,qH]
 refine aI (fun h3=> ?_) (fun h3=> ?_)
 .refine oZ (Iy _) ?_;refine⟨?_,rfl⟩;simp only[xZ,h1,h2,h3,qG,qH]
 refine aI (fun h4=> ?_) (fun h4=> ?_)
 .refine aI (fun h5=> ?_) (fun h5=> ?_)
  .refine⟨?_,rfl⟩;simp only[xZ,h1,h2,h3,h4,h5,qG,qH]
  .refine aI (by simpa using h5) ?_;refine oZ (Iy _) ?_;refine⟨?_,rfl⟩;simp only[xZ,h1,h2,h3,h4,h5,qG,qH]
 refine aI (fun h5=> ?_) (fun h5=> ?_)
 .refine oZ (Oj _) ?_;refine⟨?_,rfl⟩;simp only[xZ,h1,h2,h3,h4,h5,qG,qH]
 refine aI (fun h6=> ?_) (fun h6=> ?_)
 .refine oZ (Oj _) ?_;refine⟨?_,rfl⟩;simp only[xZ,h1,h2,h3,h4,h5,h6,qG,qH]
 .refine⟨?_,rfl⟩;simp only[xZ,h1,h2,h3,h4,h5,h6,qG,qH]
theorem U4(o a b:Int):aJ Tryz.prog 198 [.int .i64 o,.int .i64 a,.int .i64 b] (.int .i64 (xZ o a b)):=by
 refine aJ.intro (nt:=52) aG mixed (by kernel_rfl) Tryz.func198 rfl rfl rfl rfl rfl ?_;refine oZ (BZ a) ?_;refine oZ (BZ b) ?_;refine aI (fun h1=> ?_) (fun h1=> ?_)
 .refine oZ (BZ _) ?_;refine⟨?_,rfl⟩;simp only[xZ,h1,qG]
 refine aI (fun h2=> ?_) (fun h2=> ?_)
 .refine oZ (BZ _) ?_;refine⟨?_,rfl⟩;simp only[xZ,h1,h2,qG,qH]
 refine aI (fun h3=> ?_) (fun h3=> ?_)
 .refine oZ (BZ _) ?_;refine⟨?_,rfl⟩;simp only[xZ,h1,h2,h3,qG,qH]
 refine aI (fun h4=> ?_) (fun h4=> ?_)
 .refine aI (fun h5=> ?_) (fun h5=> ?_)
  .refine⟨?_,rfl⟩;simp only[xZ,h1,h2,h3,h4,h5,qG,qH]
  .refine aI (by simpa using h5) ?_;refine oZ (BZ _) ?_;refine⟨?_,rfl⟩;simp only[xZ,h1,h2,h3,h4,h5,qG,qH]
 refine aI (fun h5=> ?_) (fun h5=> ?_)
 .refine oZ (Yo _) ?_;refine⟨?_,rfl⟩;simp only[xZ,h1,h2,h3,h4,h5,qG,qH]
 refine aI (fun h6=> ?_) (fun h6=> ?_)
 .refine oZ (Yo _) ?_;refine⟨?_,rfl⟩;simp only[xZ,h1,h2,h3,h4,h5,h6,qG,qH]
 .refine⟨?_,rfl⟩;simp only[xZ,h1,h2,h3,h4,h5,h6,qG,qH]
theorem SA(xs:aS)(us:bW)(bk:List (El aZ))(kv:kT):aA Tryz.prog 148 [.ptr 10000 0] (tW xs us bk kv) (.int .i64 (IntKind.i64.wrap ((xs.length:Nat)-(kv.length:Nat)))) (tW xs us bk kv):=by
 refine aA.intro (nt:=15) aG mixed (by kernel_rfl) Tryz.func148 rfl rfl rfl rfl rfl rfl ?_;refine aI (by kernel_rfl) ?_;refine fin [] (aI ⟨rfl,rfl⟩ ?_);exact⟨trivial,⟨rfl,rfl,rfl,trivial⟩,⟨rfl,pR _⟩,rfl,trivial⟩
theorem yM(g:Nat)(xs:aS)(us:bW)(bk:List (El aZ))(kv:kT)(p q:aC)(h:bO xs)(hp:aj xs p)(hq:aj xs q):aA Tryz.prog 185 [.ptr 10000 0,vP p,vP q] (tW xs us bk kv) (.tup []) (tW (bY xs p q) us bk kv):=ZbK xs us bk kv p q hp (h p hp) hq
theorem UR:bH Tryz.prog 187=true:=by kernel_rfl
theorem Zbr(xs:aS)(us:bW)(bk:List (El aZ))(kv:kT)(x y:Int)(hA:bO xs)(h0:aj xs (0,0))(hl:xs.length<=900000)(hx:0<=x/\x<(xs.length:Nat))(h1:aj xs (y,1))(h2:(ah xs y).1=7->aj xs (y,2))(h3:(ah xs y).1≠7->0<(ah xs y).2.2.2.1.length):
  aA Tryz.prog 187 [.ptr 10000 0,.int .i64 x,.int .i64 y] (tW xs us bk kv) (.tup []) (VN 10003 (bJ xs x y) us bk kv):=by
 have hy:0<=y/\y<(xs.length:Nat):=⟨h1.1,h1.2.1⟩;refine aA.expose UR ?_;intro us' hpre hlen;refine aA.intro (nt:=64) aG mixed UR Tryz.func187 rfl rfl rfl rfl rfl rfl ?_;refine aI hx ?_;refine aI hy ?_;refine aI (vZ hlen hy.1 hy.2) ?_;refine aI (by kernel_rfl) ?_;refine aI (fun q1=> ?_) (fun q1=> ?_)
 .have q1':(ah xs y).1=7:=by have q2:((ah xs y).1==7)=true:=q1;simpa using q2
  refine oY (Y1 xs us' bk kv 8 (ah xs y).2.1 (ah xs y).2.2.1 2 [(ah xs x).2.2.1] (by omega) (by omega) (by simp)) ?_;have hA1:=hA.add h0 8 (ah xs y).2.1 (ah xs y).2.2.1 [(ah xs x).2.2.1] 2;refine oY (yM 0 (xs++[bf 8 (ah xs y).2.1 (ah xs y).2.2.1 [(ah xs x).2.2.1] 2]) us' bk kv (y,1) ((xs.length:Nat),0) hA1 h1.app (aj.new (by decide) (by decide))) ?_;refine oY (yM 0 _ us' bk kv (y,2) ((xs.length:Nat),1) (hA1.move h1.app (aj.new (by decide) (by decide))) ((h2 q1').app.move) ((aj.new (by decide) (by decide)).move)) ?_;refine fin [(10003,36)] (aI rfl ?_)
  refine⟨trivial,⟨rfl,rfl,rfl,trivial⟩,⟨?_,hpre⟩,rfl,trivial⟩;show _=bJ xs x y;unfold bJ;rw[show((ah xs y).1==7)=true from q1];rfl
 .have q1':(ah xs y).1≠7:=by have q2:((ah xs y).1==7)=false:=q1;simpa using q2
  refine aI ⟨by decide,by have:=h3 q1';show(0:Int)<((ah xs y).2.2.2.1.length:Nat);omega⟩ ?_;refine eI 10001 (aI ⟨⟨hy.1,hy.2,sW hlen hy.1 hy.2 (by decide)⟩,by decide,by have:=h3 q1';show(0:Int)<((ah xs y).2.2.2.1.length:Nat);omega⟩ ?_);refine oZ (U3 _ _ _) ?_;refine oY (AV xs us' bk kv 6 0 (xZ (ah xs y).2.2.1 (kM (ah xs y).2.2.2.1 0) (ah xs x).2.2.1) 1 (by omega) (by omega)) ?_;have hA1:=hA.add h0 6 0 (xZ (ah xs y).2.2.1 (kM (ah xs y).2.2.2.1 0) (ah xs x).2.2.1) [] 1;refine oY (yM 0 _ us' bk kv (y,1) ((xs.length:Nat),0) hA1 h1.app (aj.new (by decide) (by decide))) ?_
  refine aI (by kernel_rfl) ?_;refine fin [(10003,61)] (aI rfl ?_);refine⟨trivial,⟨rfl,rfl,rfl,trivial⟩,⟨?_,hpre⟩,rfl,trivial⟩;show _=bJ xs x y;unfold bJ;rw[show((ah xs y).1==7)=false from q1];rfl
theorem YG:bH Tryz.prog 184=true:=by kernel_rfl
theorem dupI(xs:aS)(us:bW)(bk:List (El aZ))(kv:kT)(x y:Int)(hA:bO xs)(h0:aj xs (0,0))(hl:xs.length<=900000)(hx1:aj xs (x,1))(hx2:aj xs (x,2))(hy:0<=y/\y<(xs.length:Nat))(hp:(ah xs y).2.2.2.2.length<=1000)(hdt:(ah xs y).2.2.2.1.length<=1000000)(hp0:0<(ah xs y).2.2.2.2.length):
  aA Tryz.prog 184 [.ptr 10000 0,.int .i64 x,.int .i64 y] (tW xs us bk kv) (.tup []) (VN 10003 (bK xs x y) us bk kv):=by
 have hx:0<=x/\x<(xs.length:Nat):=⟨hx1.1,hx1.2.1⟩;refine aA.expose YG ?_;intro us' hpre hlen;refine aA.intro (nt:=116) aG mixed YG Tryz.func184 rfl rfl rfl rfl rfl rfl ?_;refine aI hy ?_;refine aI (vZ hlen hy.1 hy.2) ?_;have hnp:Ah xs us' y 5 3 (us'.getD (y.toNat*5+3) undef):=⟨hy.1,hy.2,sW hlen hy.1 hy.2 (by decide)⟩;refine oY (Yn xs us' bk kv (ah xs y).1 (ah xs y).2.1 (ah xs y).2.2.1 (ah xs y).2.2.2.2.length y (us'.getD (y.toNat*5+3) undef) (by omega) (by omega) hnp (by omega)) ?_;have hag:ah (xs++[lD xs y]) y=ah xs y:=bZ (by omega)
 have hnp2:Ah (xs++[lD xs y]) us' y 5 3 (us'.getD (y.toNat*5+3) undef):=⟨hy.1,by rw[qA,qJ];omega,sW hlen hy.1 hy.2 (by decide)⟩;have hadd2:=Yn (xs++[lD xs y]) us' bk kv (ah xs y).1 (ah xs y).2.1 (ah xs y).2.2.1 (ah xs y).2.2.2.2.length y (us'.getD (y.toNat*5+3) undef) (by rw[qA,qJ];omega) (by omega) hnp2 (by rw[hag];omega);rw[hag,show(xs++[lD xs y]).length=xs.length+1 by simp]at hadd2;refine oY hadd2 ?_;have hn1:(ah xs y).2.2.2.2.length-1+1=(ah xs y).2.2.2.2.length:=by omega
 have h2A:=zO (y:=y) hA h0;have hcd:∀i:Nat,i<=(ah xs y).2.2.2.2.length-1->aj (dup2 xs y) (((xs.length:Nat):Int),(i:Nat))/\aj (dup2 xs y) (((xs.length+1:Nat):Int),(i:Nat)):=fun i hi=>⟨uX (by omega) (by omega),uY (by omega) (by omega)⟩
 refine lp Nat (fun k=>[(10,.int .i64 ((k+1:Nat):Int)),(9,.sl 20001)])
  (fun k=>[.dL 6 117 [.int .i64 (ah xs y).1,.int .i64 (ah xs y).2.1,.int .i64 (ah xs y).2.2.1,.nh y 3 (ah xs y).2.2.2.1.length (us'.getD (y.toNat*5+3) undef),.nh y 4 (ah xs y).2.2.2.2.length (us'.getD (y.toNat*5+4) undef)],
   .dL 10000 130 [.sl 20000,.rsl aZ bk,.mp 10002],.row 20000 117 5 aD (bV x ((xs.length:Nat)) ((xs.length+1:Nat)) (dup2 xs y) k) us',.map 10002 .bool kv,.row 20001 2 1 (.int .i64) (jc (xs.length+2) k) []])
  (fun k=>(ah xs y).2.2.2.2.length-1-k) (fun k=>k<=(ah xs y).2.2.2.2.length-1) 0 (Nat.zero_le _) ?_ ?_
 .exact Yz [⟨9,30000,2,1,.int .i64⟩] [(20000,47),(20001,30000)] rfl (aI (aI (aI rfl rfl) (aI rfl trivial)) ⟨trivial,⟨⟨rfl,rfl⟩,⟨rfl,rfl⟩,⟨rfl,rfl⟩,rfl,rfl,trivial⟩,trivial,⟨rfl,rfl,rfl,trivial⟩,⟨rfl,pR _⟩,rfl,⟨rfl,nP⟩,trivial⟩)
 intro k hk;refine aI (fun q1=> ?_) (fun q1=> ?_)
 .have q2:((k+1:Nat):Int)<((ah xs y).2.2.2.2.length:Nat):=by have q2:decide (((k+1:Nat):Int)<((ah xs y).2.2.2.2.length:Nat))=true:=q1;simpa using q2
  have hlt:k<(ah xs y).2.2.2.2.length-1:=by omega
  have hcl:(bV x ((xs.length:Nat)) ((xs.length+1:Nat)) (dup2 xs y) k).length=xs.length+2+k:=by rw[jq,iF]
  refine aI ⟨hx.1,by rw[hcl];omega⟩ ?_;refine oY (AV (bV x ((xs.length:Nat)) ((xs.length+1:Nat)) (dup2 xs y) k) us' bk kv 4 (ah (bV x ((xs.length:Nat)) ((xs.length+1:Nat)) (dup2 xs y) k) x).2.1 0 3 (by rw[hcl];omega) (by omega)) ?_;have hc:=hcd (k+1) (by omega);refine oY (He _ us' bk kv (((bV x ((xs.length:Nat)) ((xs.length+1:Nat)) (dup2 xs y) k).length:Nat),1) (((xs.length:Nat):Int),((k+1:Nat):Int)) (aj.new (by decide) (by decide)) (dA hc.1 k).app) ?_;refine oY (He (bD ((bV x ((xs.length:Nat)) ((xs.length+1:Nat)) (dup2 xs y) k)++[bf 4 (ah (bV x ((xs.length:Nat)) ((xs.length+1:Nat)) (dup2 xs y) k) x).2.1 0 [] 3]) (((bV x ((xs.length:Nat)) ((xs.length+1:Nat)) (dup2 xs y) k).length:Nat),1) (((xs.length:Nat):Int),((k+1:Nat):Int))) us' bk kv (((bV x ((xs.length:Nat)) ((xs.length+1:Nat)) (dup2 xs y) k).length:Nat),2) (((xs.length+1:Nat):Int),((k+1:Nat):Int)) (aj.link (aj.new (by decide) (by decide))) (dA hc.2 k).app.link) ?_
  refine aI (by show(jc (xs.length+2) k).length+1<=_;rw[mD];omega) ?_;refine aY (k+1) (by omega) ?_ ?_
  .refine hd [(20000,65),(20001,87)] rfl (aI (aI (dG (by omega)) rfl) (aI rfl trivial)) ⟨trivial,⟨⟨rfl,rfl⟩,⟨rfl,rfl⟩,⟨rfl,rfl⟩,rfl,rfl,trivial⟩,trivial,⟨rfl,rfl,rfl,trivial⟩,⟨rfl,pR _⟩,rfl,⟨?_,nP⟩,trivial⟩;show jc (xs.length+2) k++[((bV x ((xs.length:Nat)) ((xs.length+1:Nat)) (dup2 xs y) k).length:Int)]=jc (xs.length+2) (k+1);rw[DU,hcl]
  .show(ah xs y).2.2.2.2.length-1-(k+1)<(ah xs y).2.2.2.2.length-1-k;omega
 .have q2:((ah xs y).2.2.2.2.length:Nat)<=((k+1:Nat):Int):=by have q2:decide (((k+1:Nat):Int)<((ah xs y).2.2.2.2.length:Nat))=false:=q1;simpa using q2
  have hke:k=(ah xs y).2.2.2.2.length-1:=by omega
  subst hke;have h3A:bO (dup3 xs x y):=om h2A (pG h0) _ hcd;have h3:∀{p},aj xs p->aj (dup3 xs x y) p:=fun h=>dA (pG h) _
  have hc0:aj (dup3 xs x y) (((xs.length:Nat):Int),0):=dA (uX (by decide) (by omega)) _;have hd0:aj (dup3 xs x y) (((xs.length+1:Nat):Int),0):=dA (uY (by decide) (by omega)) _;refine oY (yM 0 (dup3 xs x y) us' bk kv (x,1) ((xs.length:Nat),0) h3A (h3 hx1) hc0) ?_;refine oY (yM 0 _ us' bk kv (x,2) ((xs.length+1:Nat),0) (h3A.move (h3 hx1) hc0) (h3 hx2).move hd0.move) ?_;have h4A:bO (mM xs x y):=(h3A.move (h3 hx1) hc0).move (h3 hx2).move hd0.move
  have hyi:∀i:Nat,i<(ah xs y).2.2.2.2.length-1->aj (mM xs x y) (y,((i:Nat):Int)+1)/\aj (mM xs x y) (((xs.length+2+i:Nat):Int),0):=fun i hi=>by
   refine⟨(h3 ⟨hy.1,hy.2,by omega,?_⟩).move.move,?_⟩
   .show((i:Nat):Int)+1<((ah xs y).2.2.2.2.length:Nat);omega
   .have:=(tQ (x:=x) (c:=((xs.length:Nat):Int)) (d:=((xs.length+1:Nat):Int)) (xs:=dup2 xs y) hi).move (p:=(x,1)) (q:=(((xs.length:Nat):Int),0));have:=this.move (p:=(x,2)) (q:=(((xs.length+1:Nat):Int),0));rw[iF]at this;exact this
  refine lp Nat (fun k=>[(102,.int .i64 (k:Nat)),(100,.sl 20001)])
   (fun k=>[.dL 10000 130 [.sl 20000,.rsl aZ bk,.mp 10002],.row 20000 117 5 aD (cB y (xs.length+2) (mM xs x y) k) us',.map 10002 .bool kv,.row 20001 2 1 (.int .i64) (jc (xs.length+2) ((ah xs y).2.2.2.2.length-1)) []])
   (fun k=>(ah xs y).2.2.2.2.length-1-k) (fun k=>k<=(ah xs y).2.2.2.2.length-1) 0 (Nat.zero_le _) ?_ ?_
  .exact hd [] rfl (aI (aI rfl rfl) (aI rfl trivial)) ⟨trivial,⟨rfl,rfl,rfl,trivial⟩,⟨rfl,pR _⟩,rfl,⟨rfl,nP⟩,trivial⟩
  intro k hk;refine aI (fun q1=> ?_) (fun q1=> ?_)
  .have hlt:k<(ah xs y).2.2.2.2.length-1:=by
    have q2:decide (((k:Nat):Int)<((jc (xs.length+2) ((ah xs y).2.2.2.2.length-1)).length:Nat))=true:=q1;rw[mD]at q2;simpa using q2
   refine aI (by show(0:Int)<=(k:Nat)/\((k:Nat):Int)<((jc (xs.length+2) ((ah xs y).2.2.2.2.length-1)).length:Nat);rw[mD];omega) ?_;have hyk:=hyi k hlt;have hrp:=yM 0 (cB y (xs.length+2) (mM xs x y) k) us' bk kv (y,((k:Nat):Int)+1) (((xs.length+2+k:Nat):Int),0) (mW h4A k fun i hi=>hyi i (by omega)) (fT hyk.1 k) (fT hyk.2 k);have hw:IntKind.i64.wrap (((k:Nat):Int)+1)=((k:Nat):Int)+1:=(dG (by omega)).trans (by omega);have hf:elt (0:Int) (jc (xs.length+2) ((ah xs y).2.2.2.2.length-1)) (k:Nat)=((xs.length+2+k:Nat):Int):=GU hlt
   have hrp2:aA Tryz.prog 185 [.ptr 10000 0,vP (y,IntKind.i64.wrap (((k:Nat):Int)+1)),vP (elt (0:Int) (jc (xs.length+2) ((ah xs y).2.2.2.2.length-1)) (k:Nat),0)] (tW (cB y (xs.length+2) (mM xs x y) k) us' bk kv) (.tup []) (tW (cB y (xs.length+2) (mM xs x y) (k+1)) us' bk kv):=by
    rw[hw,hf];exact hrp
   refine oY hrp2 ?_;refine aY (k+1) (by omega) ?_ ?_
   .exact hd [] rfl (aI (aI (dG (by omega)) rfl) (aI rfl trivial)) ⟨trivial,⟨rfl,rfl,rfl,trivial⟩,⟨rfl,pR _⟩,rfl,⟨rfl,nP⟩,trivial⟩
   .show(ah xs y).2.2.2.2.length-1-(k+1)<(ah xs y).2.2.2.2.length-1-k;omega
  .have hge:(ah xs y).2.2.2.2.length-1<=k:=by
    have q2:decide (((k:Nat):Int)<((jc (xs.length+2) ((ah xs y).2.2.2.2.length-1)).length:Nat))=false:=q1;rw[mD]at q2;simpa using q2
   have hke:k=(ah xs y).2.2.2.2.length-1:=by omega
   refine fin [(10003,20000)] (aI rfl ?_);refine⟨trivial,⟨rfl,rfl,rfl,trivial⟩,⟨?_,hpre⟩,rfl,trivial⟩;show cB y (xs.length+2) (mM xs x y) k=bK xs x y;rw[hke];rfl
theorem Le:bH Tryz.prog 188=true:=by kernel_rfl
theorem WC(xs:aS)(us:bW)(bk:List (El aZ))(kv:kT)(x y:Int)(hA:bO xs)(h0:aj xs (0,0))(hl:xs.length<=900000)(hx:0<=x/\x<(xs.length:Nat))(hy1:aj xs (y,1))(h6:(ah xs x).1=6->(ah xs y).2.2.2.1.length=2)(hc:(ah xs x).1≠6->0<=(ah xs x).2.2.1/\(ah xs x).2.2.1<((ah xs y).2.2.2.1.length:Nat))(hp:(ah xs x).2.2.2.2.length<=1000)(hp0:0<(ah xs x).2.2.2.2.length):
  aA Tryz.prog 188 [.ptr 10000 0,.int .i64 x,.int .i64 y] (tW xs us bk kv) (.tup []) (VN 10003 (gZ xs x y) us bk kv):=by
 have hy:0<=y/\y<(xs.length:Nat):=⟨hy1.1,hy1.2.1⟩;refine aA.expose Le ?_;intro us' hpre hlen;refine aA.intro (nt:=105) aG mixed Le Tryz.func188 rfl rfl rfl rfl rfl rfl ?_;refine aI hx ?_;refine aI (vZ hlen hx.1 hx.2) ?_;refine aI hy ?_;refine aI (vZ hlen hy.1 hy.2) ?_;refine aI (by kernel_rfl) ?_;have hnp:Ah xs us' y 5 3 (us'.getD (y.toNat*5+3) undef):=⟨hy.1,hy.2,sW hlen hy.1 hy.2 (by decide)⟩;refine aI (fun q1=> ?_) (fun q1=> ?_)
 .have q2:(ah xs x).1=6:=by have q2:((ah xs x).1==6)=true:=q1;simpa using q2
  have hlen2:=h6 q2
  have hb:0<=(bif (ah xs x).2.2.1==0 then(1:Int)else 0)/\(bif (ah xs x).2.2.1==0 then(1:Int)else 0)<((ah xs y).2.2.2.1.length:Nat):=by
   rw[hlen2];cases ((ah xs x).2.2.1==0)<;>decide
  refine oZ (Oj _) ?_;refine aI hb ?_;refine eI 10001 (aI ⟨hnp,hb⟩ ?_);refine oY (AV xs us' bk kv 12 (ah xs y).2.1 (kM (ah xs y).2.2.2.1 (bif (ah xs x).2.2.1==0 then 1 else 0)) 1 (by omega) (by omega)) ?_;have hA1:=hA.add h0 12 (ah xs y).2.1 (kM (ah xs y).2.2.2.1 (bif (ah xs x).2.2.1==0 then 1 else 0)) [] 1;refine oY (yM 0 _ us' bk kv (y,1) ((xs.length:Nat),0) hA1 hy1.app (aj.new (by decide) (by decide))) ?_;refine aI (by kernel_rfl) ?_;refine fin [(10003,46)] (aI rfl ?_);refine⟨trivial,⟨rfl,rfl,rfl,trivial⟩,⟨?_,hpre⟩,rfl,trivial⟩;show _=gZ xs x y
  unfold gZ;rw[show((ah xs x).1==6)=true from q1];rfl
 .have q2:(ah xs x).1≠6:=by have q2:((ah xs x).1==6)=false:=q1;simpa using q2
  have hv:=hc q2;refine aI hv ?_;refine eI 10001 (aI ⟨hnp,hv⟩ ?_);refine oY (AV xs us' bk kv 12 (ah xs y).2.1 (kM (ah xs y).2.2.2.1 (ah xs x).2.2.1) 1 (by omega) (by omega)) ?_;refine aI (by kernel_rfl) ?_;have h1A:bO (bE xs y (ah xs x).2.2.1):=hA.add h0 _ _ _ _ _;have h1l:(bE xs y (ah xs x).2.2.1).length=xs.length+1:=tO _ _ _;have h1R:aj (bE xs y (ah xs x).2.2.1) (iW (bE xs y (ah xs x).2.2.1).length 0):=by rw[h1l];exact aj.new (by decide) (by decide)
  have h1:∀{p},aj xs p->aj (bE xs y (ah xs x).2.2.1) p:=fun h=>h.app
  refine lp Nat (fun k=>[(64,.int .i64 (k:Nat)),(9,.sl 20001)])
   (fun k=>[.dL 6 117 [.int .i64 (ah xs x).1,.int .i64 (ah xs x).2.1,.int .i64 (ah xs x).2.2.1,.nh x 3 (ah xs x).2.2.2.1.length (us'.getD (x.toNat*5+3) undef),.nh x 4 (ah xs x).2.2.2.2.length (us'.getD (x.toNat*5+4) undef)],.dL 7 117 [.int .i64 (ah xs y).1,.int .i64 (ah xs y).2.1,.int .i64 (ah xs y).2.2.1,.nh y 3 (ah xs y).2.2.2.1.length (us'.getD (y.toNat*5+3) undef),.nh y 4 (ah xs y).2.2.2.2.length (us'.getD (y.toNat*5+4) undef)],.dL 8 119 [.int .i64 (iW (xs.length+1) k).1,.int .i64 (iW (xs.length+1) k).2],.dL 10000 130 [.sl 20000,.rsl aZ bk,.mp 10002],.row 20000 117 5 aD (oL (ah xs y).2.1 (xs.length+1) (bE xs y (ah xs x).2.2.1) k) us',.map 10002 .bool kv,.row 20001 2 1 (.int .i64) (jc (xs.length+1) k) []])
   (fun k=>((ah xs x).2.2.2.2.length-1)-k) (fun k=>k<=((ah xs x).2.2.2.2.length-1)) 0 (Nat.zero_le _) ?_ ?_
  .exact Yz [⟨9,30000,2,1,.int .i64⟩] [(20000,58),(20001,30000)] rfl (aI (aI (aI rfl rfl) (aI rfl trivial)) ⟨trivial,⟨⟨rfl,rfl⟩,⟨rfl,rfl⟩,⟨rfl,rfl⟩,rfl,rfl,trivial⟩,trivial,⟨⟨rfl,rfl⟩,⟨rfl,rfl⟩,⟨rfl,rfl⟩,rfl,rfl,trivial⟩,trivial,⟨⟨rfl,rfl⟩,⟨rfl,rfl⟩,trivial⟩,trivial,⟨rfl,rfl,rfl,trivial⟩,⟨rfl,pR _⟩,rfl,⟨rfl,nP⟩,trivial⟩)
  intro k hk;have hcl:(oL (ah xs y).2.1 (xs.length+1) (bE xs y (ah xs x).2.2.1) k).length=xs.length+1+k:=by rw[xI,h1l]
  have hwn:IntKind.i64.wrap (((ah xs x).2.2.2.2.length:Nat)-1)=((((ah xs x).2.2.2.2.length-1):Nat):Int):=by rw[qO _ (by omega)];omega
  refine aI (fun q3=> ?_) (fun q3=> ?_)
  .have hlt:k<((ah xs x).2.2.2.2.length-1):=by
    have q4:decide (((k:Nat):Int)<IntKind.i64.wrap (((ah xs x).2.2.2.2.length:Nat)-1))=true:=q3;rw[hwn]at q4;simpa using q4
   have hadd:=AV (oL (ah xs y).2.1 (xs.length+1) (bE xs y (ah xs x).2.2.1) k) us' bk kv 3 (ah xs y).2.1 0 3 (by rw[hcl];omega) (by omega);rw[hcl]at hadd;refine oY hadd ?_;have hnew:=aj.new (xs:=(oL (ah xs y).2.1 (xs.length+1) (bE xs y (ah xs x).2.2.1) k)) (k:=3) (l:=(ah xs y).2.1) (v:=0) (d:=[]) (n:=3) (s:=0) (by decide) (by decide);rw[hcl]at hnew;have hR:=Gx (lv:=(ah xs y).2.1) h1R k;rw[h1l]at hR;refine oY (He ((oL (ah xs y).2.1 (xs.length+1) (bE xs y (ah xs x).2.2.1) k)++[bf 3 (ah xs y).2.1 0 [] 3]) us' bk kv (((xs.length+1+k:Nat):Int),0) (iW (xs.length+1) k) hnew hR.app) ?_
   refine aI (by kernel_rfl) ?_;refine aI (by show(jc (xs.length+1) k).length+1<=_;rw[mD];omega) ?_;refine aY (k+1) (by omega) ?_ ?_
   .refine hd [(20000,69),(20001,82)] rfl (aI (aI (dG (by omega)) rfl) (aI rfl trivial)) ⟨trivial,⟨⟨rfl,rfl⟩,⟨rfl,rfl⟩,⟨rfl,rfl⟩,rfl,rfl,trivial⟩,trivial,⟨⟨rfl,rfl⟩,⟨rfl,rfl⟩,⟨rfl,rfl⟩,rfl,rfl,trivial⟩,trivial,⟨⟨rfl,rfl⟩,⟨rfl,rfl⟩,trivial⟩,trivial,⟨rfl,rfl,rfl,trivial⟩,⟨rfl,pR _⟩,rfl,⟨?_,nP⟩,trivial⟩;show jc (xs.length+1) k++[((xs.length+1+k:Nat):Int)]=jc (xs.length+1) (k+1);rw[DU]
   .show((ah xs x).2.2.2.2.length-1)-(k+1)<((ah xs x).2.2.2.2.length-1)-k;omega
  .have hge:((ah xs x).2.2.2.2.length-1)<=k:=by
    have q4:decide (((k:Nat):Int)<IntKind.i64.wrap (((ah xs x).2.2.2.2.length:Nat)-1))=false:=q3;rw[hwn]at q4;simpa using q4
   have hke:k=((ah xs x).2.2.2.2.length-1):=by omega
   subst hke;have h2A:bO (oL (ah xs y).2.1 (xs.length+1) (bE xs y (ah xs x).2.2.1) ((ah xs x).2.2.2.2.length-1)):=by have:=IU (lv:=(ah xs y).2.1) h1A (h1 h0) h1R ((ah xs x).2.2.2.2.length-1);rwa[h1l]at this
   have h2:∀{p},aj xs p->aj (oL (ah xs y).2.1 (xs.length+1) (bE xs y (ah xs x).2.2.1) ((ah xs x).2.2.2.2.length-1)) p:=fun h=>DC (h1 h) _
   have hxi:∀i:Nat,i<((ah xs x).2.2.2.2.length-1)->aj (oL (ah xs y).2.1 (xs.length+1) (bE xs y (ah xs x).2.2.1) ((ah xs x).2.2.2.2.length-1)) (x,((i:Nat):Int)+1)/\aj (oL (ah xs y).2.1 (xs.length+1) (bE xs y (ah xs x).2.2.1) ((ah xs x).2.2.2.2.length-1)) (((xs.length+1+i:Nat):Int),1):=fun i hi=>by
    refine⟨h2 ⟨hx.1,hx.2,by omega,?_⟩,?_⟩
    .show((i:Nat):Int)+1<((ah xs x).2.2.2.2.length:Nat);omega
    .have:=zI (lv:=(ah xs y).2.1) (xs:=(bE xs y (ah xs x).2.2.1)) (s:=1) (by decide) (by decide) hi;rw[h1l]at this;exact this
   refine lp Nat (fun k=>[(86,.int .i64 (k:Nat)),(84,.sl 20001)])
    (fun k=>[.dL 8 119 [.int .i64 (iW (xs.length+1) ((ah xs x).2.2.2.2.length-1)).1,.int .i64 (iW (xs.length+1) ((ah xs x).2.2.2.2.length-1)).2],.dL 10000 130 [.sl 20000,.rsl aZ bk,.mp 10002],.row 20000 117 5 aD (Ch x (xs.length+1) (oL (ah xs y).2.1 (xs.length+1) (bE xs y (ah xs x).2.2.1) ((ah xs x).2.2.2.2.length-1)) k) us',.map 10002 .bool kv,.row 20001 2 1 (.int .i64) (jc (xs.length+1) ((ah xs x).2.2.2.2.length-1)) []])
    (fun k=>((ah xs x).2.2.2.2.length-1)-k) (fun k=>k<=((ah xs x).2.2.2.2.length-1)) 0 (Nat.zero_le _) ?_ ?_
   .exact hd [] rfl (aI (aI rfl rfl) (aI rfl trivial)) ⟨trivial,⟨⟨rfl,rfl⟩,⟨rfl,rfl⟩,trivial⟩,trivial,⟨rfl,rfl,rfl,trivial⟩,⟨rfl,pR _⟩,rfl,⟨rfl,nP⟩,trivial⟩
   intro k hk;refine aI (fun q3=> ?_) (fun q3=> ?_)
   .have hlt:k<((ah xs x).2.2.2.2.length-1):=by
     have q2:decide (((k:Nat):Int)<((jc (xs.length+1) ((ah xs x).2.2.2.2.length-1)).length:Nat))=true:=q3;rw[mD]at q2;simpa using q2
    refine aI (by show(0:Int)<=(k:Nat)/\((k:Nat):Int)<((jc (xs.length+1) ((ah xs x).2.2.2.2.length-1)).length:Nat);rw[mD];omega) ?_;have hyk:=hxi k hlt;have hrp:=yM 0 (Ch x (xs.length+1) (oL (ah xs y).2.1 (xs.length+1) (bE xs y (ah xs x).2.2.1) ((ah xs x).2.2.2.2.length-1)) k) us' bk kv (x,((k:Nat):Int)+1) (((xs.length+1+k:Nat):Int),1) (CV h2A k fun i hi=>hxi i (by omega)) (mQ hyk.1 k) (mQ hyk.2 k);have hw:IntKind.i64.wrap (((k:Nat):Int)+1)=((k:Nat):Int)+1:=(dG (by omega)).trans (by omega)
    have hf:elt (0:Int) (jc (xs.length+1) ((ah xs x).2.2.2.2.length-1)) (k:Nat)=((xs.length+1+k:Nat):Int):=GU hlt
    have hrp2:aA Tryz.prog 185 [.ptr 10000 0,vP (x,IntKind.i64.wrap (((k:Nat):Int)+1)),vP (elt (0:Int) (jc (xs.length+1) ((ah xs x).2.2.2.2.length-1)) (k:Nat),1)] (tW (Ch x (xs.length+1) (oL (ah xs y).2.1 (xs.length+1) (bE xs y (ah xs x).2.2.1) ((ah xs x).2.2.2.2.length-1)) k) us' bk kv) (.tup []) (tW (Ch x (xs.length+1) (oL (ah xs y).2.1 (xs.length+1) (bE xs y (ah xs x).2.2.1) ((ah xs x).2.2.2.2.length-1)) (k+1)) us' bk kv):=by
     rw[hw,hf];exact hrp
    refine oY hrp2 ?_;refine aY (k+1) (by omega) ?_ ?_
    .exact hd [] rfl (aI (aI (dG (by omega)) rfl) (aI rfl trivial)) ⟨trivial,⟨⟨rfl,rfl⟩,⟨rfl,rfl⟩,trivial⟩,trivial,⟨rfl,rfl,rfl,trivial⟩,⟨rfl,pR _⟩,rfl,⟨rfl,nP⟩,trivial⟩
    .show((ah xs x).2.2.2.2.length-1)-(k+1)<((ah xs x).2.2.2.2.length-1)-k;omega
   .have hge:((ah xs x).2.2.2.2.length-1)<=k:=by
     have q2:decide (((k:Nat):Int)<((jc (xs.length+1) ((ah xs x).2.2.2.2.length-1)).length:Nat))=false:=q3;rw[mD]at q2;simpa using q2
    have hke:k=((ah xs x).2.2.2.2.length-1):=by omega
    have hR:=Gx (lv:=(ah xs y).2.1) h1R ((ah xs x).2.2.2.2.length-1);rw[h1l]at hR;refine oY (yM 0 (Ch x (xs.length+1) (oL (ah xs y).2.1 (xs.length+1) (bE xs y (ah xs x).2.2.1) ((ah xs x).2.2.2.2.length-1)) k) us' bk kv (y,1) (iW (xs.length+1) ((ah xs x).2.2.2.2.length-1)) (CV h2A k fun i hi=>hxi i (by omega)) (mQ (h2 hy1) k) (mQ hR k)) ?_;refine fin [(10003,20000)] (aI rfl ?_);refine⟨trivial,⟨rfl,rfl,rfl,trivial⟩,⟨?_,hpre⟩,rfl,trivial⟩;show bY (Ch x (xs.length+1) (oL (ah xs y).2.1 (xs.length+1) (bE xs y (ah xs x).2.2.1) ((ah xs x).2.2.2.2.length-1)) k) (y,1) (iW (xs.length+1) ((ah xs x).2.2.2.2.length-1))=gZ xs x y
    unfold gZ;rw[show((ah xs x).1==6)=false from q1,hke];rfl
theorem IW(xs:aS)(us:bW)(bk:iQ)(kv:kT)(p:Int×Int)(h1:0<=p.1/\p.1<(xs.length:Nat))(h2:0<=p.2/\p.2<(xs.length:Nat))(hb:Iz bk)(hs:∀i:Nat,dK (bG bk i))
  (hx:(bn (ah xs p.1) (ah xs p.2)).1=7->0<=(ah xs (bif (bn (ah xs p.1) (ah xs p.2)).2 then p.2 else p.1)).2.2.1/\0<=(ah xs (bif (bn (ah xs p.1) (ah xs p.2)).2 then p.2 else p.1)).2.1/\(ah xs (bif (bn (ah xs p.1) (ah xs p.2)).2 then p.2 else p.1)).2.1<=8):
  aA Tryz.prog 181 [.ptr 10000 0,vP p] (tW xs us bk kv) (.tup [.int .i64 (checkN bk xs p).1,.int .i64 (checkN bk xs p).2.1,.int .i64 (checkN bk xs p).2.2.1,.int .i64 (checkN bk xs p).2.2.2]) (tW xs us bk kv):=
 aA.vC aG [94,0] PI (fun m=>Zd xs bk m p h1 h2 hb hs hx) rfl
theorem Yy(xs:aS)(us:bW)(bk:iQ)(kv:kT)(c x y:Int)(hx:0<=x/\x<(xs.length:Nat))(hy:0<=y/\y<(xs.length:Nat))(h7:c=7->0<=(ah xs x).2.2.1/\(ah xs x).2.2.1<(bk.length:Nat)):
  aA Tryz.prog 182 [.ptr 10000 0,.int .i64 c,.int .i64 x,.int .i64 y] (tW xs us bk kv) (.int .i64 (tZ bk xs c x y)) (tW xs us bk kv):=
 aA.vC aG [94,0,0,0] UO (fun m=>Zbb xs bk m c x y hx hy h7) rfl
theorem vD:bH Tryz.prog 147=true:=by kernel_rfl
section
variable (xs:aS)(us:bW)(bk:iQ)(kv:kT)(p:Int×Int)(h1:0<=p.1/\p.1<(xs.length:Nat))(h2:0<=p.2/\p.2<(xs.length:Nat))(hb:Iz bk)(hs:∀i:Nat,dK (bG bk i))
  (hx:(bn (ah xs p.1) (ah xs p.2)).1=7->0<=(ah xs (bif (bn (ah xs p.1) (ah xs p.2)).2 then p.2 else p.1)).2.2.1/\0<=(ah xs (bif (bn (ah xs p.1) (ah xs p.2)).2 then p.2 else p.1)).2.1/\(ah xs (bif (bn (ah xs p.1) (ah xs p.2)).2 then p.2 else p.1)).2.1<=8)
include h1 h2 hb hs hx
theorem TY(hc:(checkN bk xs p).2.2.2≠0):aA Tryz.prog 147 [.ptr 10000 0,vP p] (tW xs us bk kv) (.int .i64 (checkN bk xs p).2.2.2) (tW xs us bk kv):=by
 refine aA.intro (nt:=103) aG mixed vD Tryz.func147 rfl rfl rfl rfl rfl rfl ?_;refine oY (IW xs us bk kv p h1 h2 hb hs hx) ?_;refine aI (fun q1=> ?_) (fun q1=> ?_)
 .refine fin [] (aI ⟨rfl,rfl⟩ ?_);exact⟨trivial,⟨rfl,rfl,rfl,trivial⟩,⟨rfl,pR _⟩,rfl,trivial⟩
 .have q2:((checkN bk xs p).2.2.2 !=0)=false:=q1;simp at q2;exact absurd q2 hc
theorem QT{c x y:Int}(hc:checkN bk xs p=(c,x,y,0))(hx0:0<=x/\x<(xs.length:Nat))(hy0:0<=y/\y<(xs.length:Nat))(h7:c=7->0<=(ah xs x).2.2.1/\(ah xs x).2.2.1<(bk.length:Nat))
  (hf:600<IntKind.i64.wrap (IntKind.i64.wrap ((xs.length:Nat)-(kv.length:Nat))+tZ bk xs c x y)):aA Tryz.prog 147 [.ptr 10000 0,vP p] (tW xs us bk kv) (.int .i64 4) (tW xs us bk kv):=by
 have hck:=IW xs us bk kv p h1 h2 hb hs hx;rw[hc]at hck;refine aA.intro (nt:=103) aG mixed vD Tryz.func147 rfl rfl rfl rfl rfl rfl ?_;refine oY hck ?_;refine aI (fun q1=>by cases q1) (fun q1=> ?_);refine oY (SA xs us bk kv) ?_;refine oY (Yy xs us bk kv c x y hx0 hy0 h7) ?_;refine aI (fun q2=> ?_) (fun q2=> ?_)
 .refine fin [] (aI ⟨rfl,rfl⟩ ?_);exact⟨trivial,⟨rfl,rfl,rfl,trivial⟩,⟨rfl,pR _⟩,rfl,trivial⟩
 .have q3:decide (600<IntKind.i64.wrap (IntKind.i64.wrap ((xs.length:Nat)-(kv.length:Nat))+tZ bk xs c x y))=false:=q2;simp only[qP]at q3;exact absurd hf q3
theorem Xm{c x y:Int}(hc:checkN bk xs p=(c,x,y,0))(hc7:1<=c/\c<=7)(hp:IntPre xs c x y)(hA:bO xs)(h0:aj xs (0,0))(hl:xs.length<=800000)(h7:c=7->0<=(ah xs x).2.2.1/\(ah xs x).2.2.1<(bk.length:Nat))
  (hf:¬600<IntKind.i64.wrap (IntKind.i64.wrap ((xs.length:Nat)-(kv.length:Nat))+tZ bk xs c x y))
  (hE:c=7->∀us,aA Tryz.prog 189 [.ptr 10000 0,.int .i64 x,.int .i64 y] (tW xs us bk kv) (.tup []) (VN 10003 (jO bk xs x y) us bk kv)):
  aA Tryz.prog 147 [.ptr 10000 0,vP p] (tW xs us bk kv) (.int .i64 0) (VN 10003 (aW bk xs c x y) us bk (fU kv (bR c x y))):=by
 have hck:=IW xs us bk kv p h1 h2 hb hs hx;rw[hc]at hck;obtain⟨hx0,hy0,p12,p3,px,py,dy,p5,p6⟩:=hp;refine aA.expose vD ?_;intro us' hpre hlen;have hck:=IW xs us' bk kv p h1 h2 hb hs hx;rw[hc]at hck;refine aA.intro (nt:=103) aG mixed vD Tryz.func147 rfl rfl rfl rfl rfl rfl ?_;refine oY hck ?_;refine aI (fun q1=>by cases q1) (fun q1=> ?_);refine oY (SA xs us' bk kv) ?_;refine oY (Yy xs us' bk kv c x y hx0 hy0 h7) ?_;refine aI (fun q2=> ?_) (fun q2=> ?_)
 .have q3:decide (600<IntKind.i64.wrap (IntKind.i64.wrap ((xs.length:Nat)-(kv.length:Nat))+tZ bk xs c x y))=true:=q2;simp only[qQ]at q3;exact absurd q3 hf
 refine aI (fun b1=> ?_) (fun b1=> ?_)
 .have c1:c=1:=by have b:(c==1)=true:=b1;simpa using b
  have n7:(c==7)=false:=by rw[c1];rfl
  refine aI (fun _=> ?_) (fun h=>by rw[show(c==1)=true from b1]at h;cases h);obtain⟨j1,j2,j3,j4⟩:=p12 (.inl c1);refine oY (Pq xs us' bk kv (x,1) (y,1) j1 j3 (hA _ j1) (hA _ j3)) ?_;have hA1:=hA.join j1 j3;refine oY (Pq (bg xs (x,1) (y,1)) us' bk kv (x,2) (y,2) j2.join j4.join (hA1 _ j2.join) (hA1 _ j4.join)) ?_;refine oY (vK (bg (bg xs (x,1) (y,1)) (x,2) (y,2)) us' bk kv [x,y] (by simp)) ?_;refine fin [(10003,10001)] (aI ⟨rfl,rfl⟩ ?_);refine⟨trivial,⟨rfl,rfl,rfl,trivial⟩,⟨?_,hpre⟩,?_,trivial⟩
  .show(bg (bg xs (x,1) (y,1)) (x,2) (y,2))=aW bk xs c x y;simp only[aW,b1,qG,qH]
  .show fU kv [x,y]=fU kv (bR c x y);simp only[bR,n7,qG,qH]
 refine aI (fun b2=> ?_) (fun b2=> ?_)
 .have c2:c=2:=by have b:(c==2)=true:=b2;simpa using b
  have n7:(c==7)=false:=by rw[c2];rfl
  obtain⟨j1,j2,j3,j4⟩:=p12 (.inr c2);refine oY (Pq xs us' bk kv (x,1) (y,1) j1 j3 (hA _ j1) (hA _ j3)) ?_;have hA1:=hA.join j1 j3;refine oY (Pq (bg xs (x,1) (y,1)) us' bk kv (x,2) (y,2) j2.join j4.join (hA1 _ j2.join) (hA1 _ j4.join)) ?_;refine oY (vK (bg (bg xs (x,1) (y,1)) (x,2) (y,2)) us' bk kv [x,y] (by simp)) ?_;refine fin [(10003,10001)] (aI ⟨rfl,rfl⟩ ?_);refine⟨trivial,⟨rfl,rfl,rfl,trivial⟩,⟨?_,hpre⟩,?_,trivial⟩
  .show(bg (bg xs (x,1) (y,1)) (x,2) (y,2))=aW bk xs c x y;simp only[aW,b1,b2,qG,qH]
  .show fU kv [x,y]=fU kv (bR c x y);simp only[bR,n7,qG,qH]
 refine aI (fun b3=> ?_) (fun b3=> ?_)
 .have c3:c=3:=by have b:(c==3)=true:=b3;simpa using b
  have n7:(c==7)=false:=by rw[c3];rfl
  obtain⟨j1,j2⟩:=p3 c3;refine oY (dupI xs us' bk kv x y hA h0 (by omega) j1 j2 hy0 py.2 dy py.1) ?_;refine oY (vK (bK xs x y) us' bk kv [x,y] (by simp)) ?_;refine fin [(10003,51)] (aI ⟨rfl,rfl⟩ ?_);refine⟨trivial,⟨rfl,rfl,rfl,trivial⟩,⟨?_,hpre⟩,?_,trivial⟩
  .show(bK xs x y)=aW bk xs c x y;simp only[aW,b1,b2,b3,qG,qH]
  .show fU kv [x,y]=fU kv (bR c x y);simp only[bR,n7,qG,qH]
 refine aI (fun b4=> ?_) (fun b4=> ?_)
 .have c4:c=4:=by have b:(c==4)=true:=b4;simpa using b
  have n7:(c==7)=false:=by rw[c4];rfl
  have hyk:∀i:Nat,i<((ah xs y).2.2.2.2.length-1)->aj xs (y,((i+1:Nat):Int)):=fun i hi=>⟨hy0.1,hy0.2,by omega,by show((i+1:Nat):Int)<((ah xs y).2.2.2.2.length:Nat);omega⟩
  refine lp Nat (fun k=>[(9,.int .i64 ((k+1:Nat):Int))]) (fun k=>[.dL 10000 130 [.sl 20000,.rsl aZ bk,.mp 10002],.row 20000 117 5 aD (sG y xs k) us',.map 10002 .bool kv]) (fun k=>((ah xs y).2.2.2.2.length-1)-k) (fun k=>k<=((ah xs y).2.2.2.2.length-1)) 0 (Nat.zero_le _) ?_ ?_
  .exact hd [(20000,10001)] rfl (aI (aI rfl rfl) trivial) ⟨trivial,⟨rfl,rfl,rfl,trivial⟩,⟨rfl,pR _⟩,rfl,trivial⟩
  intro k hk;refine aI (show 0<=y/\y<((sG y xs k).length:Nat) by rw[mX];omega) ?_;refine aI (vZ hlen hy0.1 hy0.2) ?_;have hpl:(ah (sG y xs k) y).2.2.2.2.length=(ah xs y).2.2.2.2.length:=GK (by omega) k;refine aI (fun q4=> ?_) (fun q4=> ?_)
  .have hlt:k<((ah xs y).2.2.2.2.length-1):=by
    have q5:decide (((k+1:Nat):Int)<((ah (sG y xs k) y).2.2.2.2.length:Nat))=true:=q4;rw[hpl]at q5;have q6:((k+1:Nat):Int)<((ah xs y).2.2.2.2.length:Nat):=by simpa using q5
    omega
   have hadd:=AV (sG y xs k) us' bk kv 5 0 0 1 (by rw[mX];omega) (by omega);rw[mX]at hadd;refine oY hadd ?_;refine oY (yM 0 (sG y xs k++[bf 5 0 0 [] 1]) us' bk kv (y,((k+1:Nat):Int)) (((xs.length+k:Nat):Int),0) ((zS hA h0 k fun i hi=>hyk i (by omega)).add (sS h0 k) _ _ _ _ _) (sS (hyk k hlt) k).app (CY k)) ?_;refine aY (k+1) (by omega) ?_ ?_
   .exact hd [(20000,73)] rfl (aI (aI (dG (by omega)) rfl) trivial) ⟨trivial,⟨rfl,rfl,rfl,trivial⟩,⟨rfl,pR _⟩,rfl,trivial⟩
   .show((ah xs y).2.2.2.2.length-1)-(k+1)<((ah xs y).2.2.2.2.length-1)-k;omega
  have hge:((ah xs y).2.2.2.2.length-1)<=k:=by
   have q5:decide (((k+1:Nat):Int)<((ah (sG y xs k) y).2.2.2.2.length:Nat))=false:=q4;rw[hpl]at q5;have q6:((ah xs y).2.2.2.2.length:Nat)<=((k+1:Nat):Int):=by simpa using q5
   omega
  have hke:k=((ah xs y).2.2.2.2.length-1):=by omega
  subst hke;refine oY (vK (iA xs y) us' bk kv [x,y] (by simp)) ?_;refine fin [(10003,20000)] (aI ⟨rfl,rfl⟩ ?_);refine⟨trivial,⟨rfl,rfl,rfl,trivial⟩,⟨?_,hpre⟩,?_,trivial⟩
  .show(iA xs y)=aW bk xs c x y;simp only[aW,b1,b2,b3,b4,qG,qH]
  .show fU kv [x,y]=fU kv (bR c x y);simp only[bR,n7,qG,qH]
 refine aI (fun b5=> ?_) (fun b5=> ?_)
 .have c5:c=5:=by have b:(c==5)=true:=b5;simpa using b
  have n7:(c==7)=false:=by rw[c5];rfl
  obtain⟨j1,j2,j3⟩:=p5 c5;refine oY (Zbr xs us' bk kv x y hA h0 (by omega) hx0 j1 j2 j3) ?_;refine oY (vK (bJ xs x y) us' bk kv [x,y] (by simp)) ?_;refine fin [(10003,81)] (aI ⟨rfl,rfl⟩ ?_);refine⟨trivial,⟨rfl,rfl,rfl,trivial⟩,⟨?_,hpre⟩,?_,trivial⟩
  .show(bJ xs x y)=aW bk xs c x y;simp only[aW,b1,b2,b3,b4,b5,qG,qH]
  .show fU kv [x,y]=fU kv (bR c x y);simp only[bR,n7,qG,qH]
 refine aI (fun b6=> ?_) (fun b6=> ?_)
 .have c6:c=6:=by have b:(c==6)=true:=b6;simpa using b
  have n7:(c==7)=false:=by rw[c6];rfl
  obtain⟨j1,j2,j3⟩:=p6 c6;refine oY (WC xs us' bk kv x y hA h0 (by omega) hx0 j1 j2 j3 px.2 px.1) ?_;refine oY (vK (gZ xs x y) us' bk kv [x,y] (by simp)) ?_;refine fin [(10003,87)] (aI ⟨rfl,rfl⟩ ?_);refine⟨trivial,⟨rfl,rfl,rfl,trivial⟩,⟨?_,hpre⟩,?_,trivial⟩
  .show(gZ xs x y)=aW bk xs c x y;simp only[aW,b1,b2,b3,b4,b5,b6,qG,qH]
  .show fU kv [x,y]=fU kv (bR c x y);simp only[bR,n7,qG,qH]
 refine aI (fun b7=> ?_) (fun b7=> ?_)
 .have c7:c=7:=by have b:(c==7)=true:=b7;simpa using b
  refine oY (hE c7 us') ?_;refine oY (vK (jO bk xs x y) us' bk kv [x] (by simp)) ?_;refine fin [(10003,93)] (aI ⟨rfl,rfl⟩ ?_);refine⟨trivial,⟨rfl,rfl,rfl,trivial⟩,⟨?_,hpre⟩,?_,trivial⟩
  .show(jO bk xs x y)=aW bk xs c x y;simp only[aW,b1,b2,b3,b4,b5,b6,b7,qG,qH]
  .show fU kv [x]=fU kv (bR c x y);simp only[bR,b7,qG,qH]
 .exfalso;simp at b1 b2 b3 b4 b5 b6 b7;omega
end
end Go.Proofs.YtbdimbjclhmeoaaGreat
namespace Go.Proofs.YtbdimbjclhmeoaaGreat
open Go Go.RowKit Go.Proofs Go.Tr
abbrev tR(xs:List ak)(us:List Value)(bk:List (List ak))(kv:List (Int×Bool))(ev:List aB):List Tok:=[.dL 10000 106 [.ptr 10001 0,.sl 10004],.dL 10001 130 [.sl 10002,.rsl aZ bk,.mp 10003],.row 10002 117 5 aD xs us,.map 10003 .bool kv,.row 10004 67 5 aV ev []]
abbrev RX(g1 g2:Nat)(xs:List ak)(us:List Value)(bk:List (List ak))(kv:List (Int×Bool))(ev:List aB):List Tok:=[.dL 10000 106 [.ptr 10001 0,.sl g2],.dL 10001 130 [.sl g1,.rsl aZ bk,.mp 10003],.row g1 117 5 aD xs us,.map 10003 .bool kv,.row g2 67 5 aV ev []]
theorem PK:bH Tryz.prog 79=true:=by kernel_rfl
theorem Zz(xs:aS)(k:Int):aJ Tryz.prog 79 [.rp aZ xs,.int .i64 k] (.bool (hasB xs k)):=by
 refine aJ.intro (nt:=16) aG mixed PK Tryz.func79 rfl rfl rfl rfl rfl ?_;exact rfl
theorem Hy:bH Tryz.prog 47=true:=by kernel_rfl
theorem HV:bH Tryz.prog 131=true:=by kernel_rfl
theorem Ll:bH Tryz.prog 113=true:=by kernel_rfl
theorem wY:bH Tryz.prog 76=true:=by kernel_rfl
section
variable (xs:aS)(us:bW)(bk:iQ)(kv:kT)(ev:List aB)
theorem oQ(k:Int):aA Tryz.prog 46 [.ptr 10000 0,.int .i64 k] (tR xs us bk kv ev) (.bool (fK xs kv k)) (tR xs us bk kv ev):=by
 refine aA.intro (nt:=25) aG mixed (by kernel_rfl) Tryz.func46 rfl rfl rfl rfl rfl rfl ?_;refine oY (aA.vC aG [64,0] PK (Zz xs k) rfl) ?_;refine fin [] (aI rfl ?_);exact⟨trivial,⟨rfl,rfl,trivial⟩,trivial,⟨rfl,rfl,rfl,trivial⟩,⟨rfl,pR _⟩,rfl,⟨rfl,nP⟩,trivial⟩
theorem ZaU:aA Tryz.prog 139 [.ptr 10000 0] (tR xs us bk kv ev) (.int .i64 (bif decide (3000<(xs.length:Int))then 4 else 0)) (tR xs us bk kv ev):=by
 refine aA.intro (nt:=13) aG mixed (by kernel_rfl) Tryz.func139 rfl rfl rfl rfl rfl rfl ?_;refine aI (fun q1=> ?_) (fun q1=> ?_)
 .have q2:decide (3000<(xs.length:Int))=true:=q1;refine fin [] (aI ⟨by rw[q2];rfl,rfl⟩ ?_);exact⟨trivial,⟨rfl,rfl,trivial⟩,trivial,⟨rfl,rfl,rfl,trivial⟩,⟨rfl,pR _⟩,rfl,⟨rfl,nP⟩,trivial⟩
 .have q2:decide (3000<(xs.length:Int))=false:=q1;refine fin [] (aI ⟨by rw[q2];rfl,rfl⟩ ?_);exact⟨trivial,⟨rfl,rfl,trivial⟩,trivial,⟨rfl,rfl,rfl,trivial⟩,⟨rfl,pR _⟩,rfl,⟨rfl,nP⟩,trivial⟩
end
end Go.Proofs.YtbdimbjclhmeoaaGreat
namespace Go.Proofs.YtbdimbjclhmeoaaGreat
open Go Go.RowKit Go.Proofs Go.Tr
section
variable (xs:aS)(us:bW)(bk:iQ)(kv:kT)(ev:List aB)
theorem zy(a b:Int)(ha:0<=a/\a<(xs.length:Nat))(hb:0<=b/\b<(xs.length:Nat))(hp:0<(ah xs a).2.2.2.2.length):aA Tryz.prog 47 [.ptr 10000 0,.int .i64 a,.int .i64 b] (tR xs us bk kv ev) (.bool (nU xs a b)) (tR xs us bk kv ev):=by
 refine aA.gK 10002 Hy ?_;refine aI (fun _ us' hpre hlen=> ?_) (fun h=>absurd rfl h);refine aI (fun h=>absurd h (by decide)) (fun _=> ?_);refine aA.intro (nt:=59) aG mixed Hy Tryz.func47 rfl rfl rfl rfl rfl rfl ?_;refine aI (fun _=>ha) ?_;refine aI (fun _=>vZ hlen ha.1 ha.2) ?_;refine aI (fun _=>⟨Int.le_refl 0,by show(0:Int)<((ah xs a).2.2.2.2.length:Nat);omega⟩) ?_;refine eI 10002 (aI (fun _=>⟨⟨ha.1,ha.2,sW hlen ha.1 ha.2 (by decide)⟩,Int.le_refl 0,by show(0:Int)<((ah xs a).2.2.2.2.length:Nat);omega⟩) ?_);refine aI (fun _=>⟨by kernel_rfl,rfl⟩) ?_
 refine aI (fun _=>ha) ?_;refine aI (fun _=>hb) ?_;refine fin [] (aI rfl ?_);exact⟨trivial,⟨rfl,rfl,trivial⟩,trivial,⟨rfl,rfl,rfl,trivial⟩,⟨rfl,hpre⟩,rfl,⟨rfl,nP⟩,trivial⟩
variable (p:Int×Int)(h1:0<=p.1/\p.1<(xs.length:Nat))(h2:0<=p.2/\p.2<(xs.length:Nat))
include h1 h2
theorem EO{code:Int}(hc:code≠0)(hI:aA Tryz.prog 147 [.ptr 10000 0,vP p] (tW xs us bk kv) (.int .i64 code) (tW xs us bk kv)):aA Tryz.prog 131 [.ptr 10000 0,vP p] (tR xs us bk kv ev) (.int .i64 code) (tR xs us bk kv ev):=by
 refine aA.intro (nt:=65) aG mixed HV Tryz.func131 rfl rfl rfl rfl rfl rfl ?_;refine oY (aA.vC aG [64,0] BJ (DJ xs p h1 h2) rfl) ?_;refine aI (by kernel_rfl) ?_;refine oY hI ?_;refine aI (by kernel_rfl) ?_;refine aI (fun q1=> ?_) (fun q1=> ?_)
 .refine fin [] (aI ⟨rfl,rfl⟩ ?_);exact⟨trivial,⟨rfl,rfl,trivial⟩,trivial,⟨rfl,rfl,rfl,trivial⟩,⟨rfl,pR _⟩,rfl,⟨rfl,nP⟩,trivial⟩
 .exfalso;have q2:(code !=0)=false:=q1;simp at q2;exact hc q2
theorem H8{xs':aS}{kv':kT}(hx':xs'.length<=1000000)(hx:xs.length<=xs'.length)(he:ev.length<=1000)(hI:aA Tryz.prog 147 [.ptr 10000 0,vP p] (tW xs us bk kv) (.int .i64 0) (VN 10003 xs' us bk kv')):aA Tryz.prog 131 [.ptr 10000 0,vP p] (tR xs us bk kv ev) (.int .i64 0) (RX 10005 10006 xs' us bk kv' (ev++[(p.1,p.2,(bn (ah xs p.1) (ah xs p.2)).1,(xs.length:Int),(xs'.length:Int)-(xs.length:Int))])):=by
 refine aA.intro (nt:=65) aG mixed HV Tryz.func131 rfl rfl rfl rfl rfl rfl ?_;refine oY (aA.vC aG [64,0] BJ (DJ xs p h1 h2) rfl) ?_;refine aI (by kernel_rfl) ?_;refine oY hI ?_;refine aI (by kernel_rfl) ?_;refine aI (fun q1=>by cases q1) (fun q1=> ?_);refine aI (show ev.length+1<=1073741824 by omega) ?_;refine aI (by kernel_rfl) ?_;refine fin [(10005,34),(10006,62)] (aI ⟨rfl,rfl⟩ ?_);refine⟨trivial,⟨rfl,rfl,trivial⟩,trivial,⟨rfl,rfl,rfl,trivial⟩,⟨rfl,pR _⟩,rfl,⟨?_,nP⟩,trivial⟩;have hw:IntKind.i64.wrap ((xs'.length:Int)-(xs.length:Int))=(xs'.length:Int)-(xs.length:Int):=qO _ (by omega)
 exact congrArg (fun z:Int=>ev++[((p.1,p.2,(bn (ah xs p.1) (ah xs p.2)).1,(xs.length:Int),z):aB)]) hw
omit h1 h2 in
theorem Ry{code:Int}(hc:code≠0)(hP:aA Tryz.prog 131 [.ptr 10000 0,vP p] (tR xs us bk kv ev) (.int .i64 code) (tR xs us bk kv ev)):aA Tryz.prog 113 [.ptr 10000 0,vP p] (tR xs us bk kv ev) (.int .i64 code) (tR xs us bk kv ev):=by
 refine aA.intro (nt:=14) aG mixed Ll Tryz.func113 rfl rfl rfl rfl rfl rfl ?_;refine oY hP ?_;refine aI (fun q1=> ?_) (fun q1=> ?_)
 .refine fin [] (aI ⟨rfl,rfl⟩ ?_);exact⟨trivial,⟨rfl,rfl,trivial⟩,trivial,⟨rfl,rfl,rfl,trivial⟩,⟨rfl,pR _⟩,rfl,⟨rfl,nP⟩,trivial⟩
 .exfalso;have q2:(code !=0)=false:=q1;simp at q2;exact hc q2
omit h1 h2 in
theorem Vt{xs':aS}{kv':kT}{ev':List aB}(hP:aA Tryz.prog 131 [.ptr 10000 0,vP p] (tR xs us bk kv ev) (.int .i64 0) (RX 10005 10006 xs' us bk kv' ev')):aA Tryz.prog 113 [.ptr 10000 0,vP p] (tR xs us bk kv ev) (.int .i64 (bif decide (3000<(xs'.length:Int))then 4 else 0)) (RX 10005 10006 xs' us bk kv' ev'):=by
 refine aA.intro (nt:=14) aG mixed Ll Tryz.func113 rfl rfl rfl rfl rfl rfl ?_;refine oY hP ?_;refine aI (fun q1=>by cases q1) (fun q1=> ?_);refine oY (ZaU xs' us bk kv' ev') ?_;refine fin [(10005,8),(10006,1000008)] (aI ⟨rfl,rfl⟩ ?_);exact⟨trivial,⟨rfl,rfl,trivial⟩,trivial,⟨rfl,rfl,rfl,trivial⟩,⟨rfl,pR _⟩,rfl,⟨rfl,nP⟩,trivial⟩
end
end Go.Proofs.YtbdimbjclhmeoaaGreat
namespace Go.Proofs.YtbdimbjclhmeoaaGreat
open Go Go.RowKit Go.Proofs Go.Tr
abbrev yI(e:aB):SV:=.agg [.int .i64 e.1,.int .i64 e.2.1,.int .i64 e.2.2.1,.int .i64 e.2.2.2.1,.int .i64 e.2.2.2.2]
def jI(e:aB):List Int:=[e.1,e.2.1,e.2.2.1,e.2.2.2.1,e.2.2.2.2]
theorem kI{xs:aS}{kv:kT}{k:Int}(h:fK xs kv k=true):0<=k/\k<(xs.length:Nat):=by
 unfold fK at h;cases hb:hasB xs k with
 |true=>exact TL hb
 |false=>rw[hb]at h;cases h
section
variable (xs:aS)(us:bW)(bk:iQ)(kv:kT)(ev:List aB)(e:aB)
theorem XW(h:(fK xs kv e.1&&fK xs kv e.2.1)=false):aA Tryz.prog 76 [.ptr 10000 0,yI e] (tR xs us bk kv ev) (.int .i64 3) (tR xs us bk kv ev):=by
 refine aA.intro (nt:=51) aG mixed wY Tryz.func76 rfl rfl rfl rfl rfl rfl ?_;refine oY (oQ xs us bk kv ev e.1) ?_;cases ha:fK xs kv e.1 with
 |false=>
  refine Or.inr (aI (fun g=>by cases g) (fun g=> ?_));refine eI (.bool false) ?_;refine aI (fun q=> ?_) (fun q=>by cases q);refine fin [] (aI ⟨rfl,rfl⟩ ?_);exact⟨trivial,⟨rfl,rfl,trivial⟩,trivial,⟨rfl,rfl,rfl,trivial⟩,⟨rfl,pR _⟩,rfl,⟨rfl,nP⟩,trivial⟩
 |true=>
  have hb:fK xs kv e.2.1=false:=by rw[ha]at h;simpa using h
  refine Or.inr (aI (fun g=> ?_) (fun g=>by cases g));refine eI _ (eI _ (aI (oQ xs us bk kv ev e.2.1) ?_));rw[hb];refine aI (fun q=> ?_) (fun q=>by cases q);refine fin [] (aI ⟨rfl,rfl⟩ ?_);exact⟨trivial,⟨rfl,rfl,trivial⟩,trivial,⟨rfl,rfl,rfl,trivial⟩,⟨rfl,pR _⟩,rfl,⟨rfl,nP⟩,trivial⟩
variable (ha:fK xs kv e.1=true)(hb:fK xs kv e.2.1=true)(hp:0<(ah xs e.1).2.2.2.2.length)
include ha hb hp
theorem XY(h:nU xs e.1 e.2.1=false):aA Tryz.prog 76 [.ptr 10000 0,yI e] (tR xs us bk kv ev) (.int .i64 5) (tR xs us bk kv ev):=by
 refine aA.intro (nt:=51) aG mixed wY Tryz.func76 rfl rfl rfl rfl rfl rfl ?_;refine oY (oQ xs us bk kv ev e.1) ?_;rw[ha];refine Or.inr (aI (fun g=> ?_) (fun g=>by cases g));refine eI _ (eI _ (aI (oQ xs us bk kv ev e.2.1) ?_));rw[hb];refine aI (fun q=>by cases q) (fun q=> ?_);refine oY (zy xs us bk kv ev e.1 e.2.1 (kI ha) (kI hb) hp) ?_;rw[h];refine aI (fun q=> ?_) (fun q=>by cases q);refine fin [] (aI ⟨rfl,rfl⟩ ?_);exact⟨trivial,⟨rfl,rfl,trivial⟩,trivial,⟨rfl,rfl,rfl,trivial⟩,⟨rfl,pR _⟩,rfl,⟨rfl,nP⟩,trivial⟩
variable (h:nU xs e.1 e.2.1=true)
include h
theorem RA{code:Int}(hc:code≠0)(hP:aA Tryz.prog 113 [.ptr 10000 0,vP (e.1,e.2.1)] (tR xs us bk kv ev) (.int .i64 code) (tR xs us bk kv ev)):aA Tryz.prog 76 [.ptr 10000 0,yI e] (tR xs us bk kv ev) (.int .i64 code) (tR xs us bk kv ev):=by
 refine aA.intro (nt:=51) aG mixed wY Tryz.func76 rfl rfl rfl rfl rfl rfl ?_;refine oY (oQ xs us bk kv ev e.1) ?_;rw[ha];refine Or.inr (aI (fun g=> ?_) (fun g=>by cases g));refine eI _ (eI _ (aI (oQ xs us bk kv ev e.2.1) ?_));rw[hb];refine aI (fun q=>by cases q) (fun q=> ?_);refine oY (zy xs us bk kv ev e.1 e.2.1 (kI ha) (kI hb) hp) ?_;rw[h];refine aI (fun q=>by cases q) (fun q=> ?_);refine oY hP ?_;refine aI (fun q1=> ?_) (fun q1=> ?_)
 .refine fin [] (aI ⟨rfl,rfl⟩ ?_);exact⟨trivial,⟨rfl,rfl,trivial⟩,trivial,⟨rfl,rfl,rfl,trivial⟩,⟨rfl,pR _⟩,rfl,⟨rfl,nP⟩,trivial⟩
 .exfalso;have q2:(code !=0)=false:=q1;simp at q2;exact hc q2
theorem NR{xs':aS}{kv':kT}{ev':List aB}{code:Int}(hc:code≠0)(hP:aA Tryz.prog 113 [.ptr 10000 0,vP (e.1,e.2.1)] (tR xs us bk kv ev) (.int .i64 code) (RX 10005 10006 xs' us bk kv' ev')):aA Tryz.prog 76 [.ptr 10000 0,yI e] (tR xs us bk kv ev) (.int .i64 code) (RX 10005 10006 xs' us bk kv' ev'):=by
 refine aA.intro (nt:=51) aG mixed wY Tryz.func76 rfl rfl rfl rfl rfl rfl ?_;refine oY (oQ xs us bk kv ev e.1) ?_;rw[ha];refine Or.inr (aI (fun g=> ?_) (fun g=>by cases g));refine eI _ (eI _ (aI (oQ xs us bk kv ev e.2.1) ?_));rw[hb];refine aI (fun q=>by cases q) (fun q=> ?_);refine oY (zy xs us bk kv ev e.1 e.2.1 (kI ha) (kI hb) hp) ?_;rw[h];refine aI (fun q=>by cases q) (fun q=> ?_);refine oY hP ?_;refine aI (fun q1=> ?_) (fun q1=> ?_)
 .refine fin [(10005,33),(10006,1000033)] (aI ⟨rfl,rfl⟩ ?_);exact⟨trivial,⟨rfl,rfl,trivial⟩,trivial,⟨rfl,rfl,rfl,trivial⟩,⟨rfl,pR _⟩,rfl,⟨rfl,nP⟩,trivial⟩
 .exfalso;have q2:(code !=0)=false:=q1;simp at q2;exact hc q2
theorem Vv{xs':aS}{kv':kT}{f:aB}(he:ev.length<=1000)(hP:aA Tryz.prog 113 [.ptr 10000 0,vP (e.1,e.2.1)] (tR xs us bk kv ev) (.int .i64 0) (RX 10005 10006 xs' us bk kv' (ev++[f]))):aA Tryz.prog 76 [.ptr 10000 0,yI e] (tR xs us bk kv ev) (.int .i64 (bif !bT (jI f) (jI e)then 14 else 0)) (RX 10005 10006 xs' us bk kv' (ev++[f])):=by
 refine aA.intro (nt:=51) aG mixed wY Tryz.func76 rfl rfl rfl rfl rfl rfl ?_;refine oY (oQ xs us bk kv ev e.1) ?_;rw[ha];refine Or.inr (aI (fun g=> ?_) (fun g=>by cases g));refine eI _ (eI _ (aI (oQ xs us bk kv ev e.2.1) ?_));rw[hb];refine aI (fun q=>by cases q) (fun q=> ?_);refine oY (zy xs us bk kv ev e.1 e.2.1 (kI ha) (kI hb) hp) ?_;rw[h];refine aI (fun q=>by cases q) (fun q=> ?_);refine oY hP ?_;refine aI (fun q1=>by cases q1) (fun q1=> ?_);have hlen:(ev++[f]).length=ev.length+1:=by rw[qA];rfl
 have hw:IntKind.i64.wrap (((ev++[f]).length:Int)-1)=(ev.length:Int):=by rw[hlen,qO _ (by omega)];omega
 have hlast:elt (dflt aV) (ev++[f]) (IntKind.i64.wrap (((ev++[f]).length:Int)-1))=f:=by
  rw[hw];unfold elt;rw[qK,qC,qL (Nat.le_refl _),Nat.sub_self];rfl
 refine aI (show 0<=IntKind.i64.wrap (((ev++[f]).length:Int)-1)/\IntKind.i64.wrap (((ev++[f]).length:Int)-1)<((ev++[f]).length:Nat) by rw[hw,hlen];omega) ?_;refine aI ⟨by kernel_rfl,rfl⟩ ?_;refine aI (by kernel_rfl) ?_;refine aI (fun q2=> ?_) (fun q2=> ?_)
 .have q3:(!bT (jI f) (jI e))=true:=by rw[<-hlast];exact q2
  rw[q3];refine fin [(10005,33),(10006,1000033)] (aI ⟨rfl,rfl⟩ ?_);exact⟨trivial,⟨rfl,rfl,trivial⟩,trivial,⟨rfl,rfl,rfl,trivial⟩,⟨rfl,pR _⟩,rfl,⟨rfl,nP⟩,trivial⟩
 .have q3:(!bT (jI f) (jI e))=false:=by rw[<-hlast];exact q2
  rw[q3];refine fin [(10005,33),(10006,1000033)] (aI ⟨rfl,rfl⟩ ?_);exact⟨trivial,⟨rfl,rfl,trivial⟩,trivial,⟨rfl,rfl,rfl,trivial⟩,⟨rfl,pR _⟩,rfl,⟨rfl,nP⟩,trivial⟩
end
end Go.Proofs.YtbdimbjclhmeoaaGreat
namespace Go.Proofs.YtbdimbjclhmeoaaGreat
open Go Go.RowKit Go.Proofs Go.Tr
theorem ZI(xs:aS)(bk:iQ)(h:dK xs):aA Tryz.prog 112 [.rsl aZ bk,.agg [.rsl aD xs]] [] (.ptr 10000 0) [.dL 10000 130 [.sl 10001,.rsl aZ bk,.mp 10002],.row 10001 117 5 aD xs [],.map 10002 .bool []]:=by
 refine aA.intro (nt:=11) aG mixed (by kernel_rfl) Tryz.func112 rfl rfl rfl rfl rfl rfl ?_;refine oY (DK xs h) ?_;refine fin [(10000,10),(10001,6),(10002,8)] (aI rfl ?_);exact⟨trivial,⟨rfl,rfl,rfl,trivial⟩,⟨rfl,nP⟩,rfl,trivial⟩
theorem JD(xs:aS)(bk:iQ)(h:dK xs):aA Tryz.prog 75 [.rsl aZ bk,.agg [.rsl aD xs]] [] (.ptr 10000 0) [.dL 10000 106 [.ptr 10001 0,.raw (.slice none 0 0)],.dL 10001 130 [.sl 10002,.rsl aZ bk,.mp 10003],.row 10002 117 5 aD xs [],.map 10003 .bool []]:=by
 refine aA.intro (nt:=10) aG mixed (by kernel_rfl) Tryz.func75 rfl rfl rfl rfl rfl rfl ?_;refine oY (ZI xs bk h) ?_;refine fin [(10000,9),(10001,7),(10002,1000007),(10003,2000007)] (aI rfl ?_);exact⟨trivial,⟨rfl,rfl,trivial⟩,trivial,⟨rfl,rfl,rfl,trivial⟩,⟨rfl,nP⟩,rfl,trivial⟩
end Go.Proofs.YtbdimbjclhmeoaaGreat
