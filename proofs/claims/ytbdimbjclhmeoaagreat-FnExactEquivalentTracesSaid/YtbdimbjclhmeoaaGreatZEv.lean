
/- The helpers of the statements for these types: equal, copied, counted. Printed by gen_fam.py. -/
import Derived.Test.YtbdimbjclhmeoaaGreatRh
set_option maxHeartbeats 4000000
set_option linter.unusedSimpArgs false
set_option linter.unusedVariables false
namespace Go.Proofs.YtbdimbjclhmeoaaGreat
open Go Go.RowKit Go.Proofs Go.Tr
theorem DR(x y:aU){b1 b2 us vs}(w:World)(hx:TN w x.enc b1 us)(hy:TN w y.enc b2 vs):
  Calls Tryz.prog 140 #[.agg us.toArray,.agg vs.toArray] w fun e w'=>e=.returned (.bool (yE x y))/\Below w.heap.size w w':=by
 obtain⟨rfl,rfl⟩:=aU.us hx;obtain⟨rfl,rfl⟩:=aU.us hy;have HB:=((Below.refl w.heap.size w).alloc (Nat.le_refl _) (.cells #[.int .i64 x.agent,.int .i64 x.slot] 119)).alloc (by simp) (.cells #[.int .i64 y.agent,.int .i64 y.slot] 119)
 go_enter Tryz.func140,Tryz.ntmps140
 cases hq0:(x.agent !=y.agent)
 case true=>
  go_wp2_with fail
  go_ret;exact⟨by rw[jY (fun e=>by rw[e]at hq0;simp at hq0)];rfl,HB⟩
 cases hq1:(x.slot !=y.slot)
 case true=>
  go_wp2_with fail
  go_ret;exact⟨by rw[jY (fun e=>by rw[e]at hq1;simp at hq1)];rfl,HB⟩
 go_wp2_with fail
 go_ret;refine⟨?_,HB⟩;have hxy:x=y:=aU.MZ (show x.agent=y.agent by simpa using hq0) (show x.slot=y.slot by simpa using hq1);rw[uZ hxy];rfl
theorem I7(xs ys:List Int){A B:Option Addr}{c d:Nat}{b1 b2}(w:World)(hx:T1 w (.sl xs.length (xs.flatMap dJ)) b1 (.slice A xs.length c))(hy:T1 w (.sl ys.length (ys.flatMap dJ)) b2 (.slice B ys.length d))(hn':xs.length<=maxLen)(hm':ys.length<=maxLen):
  Calls Tryz.prog 26 #[.slice A xs.length c,.slice B ys.length d] w fun e w'=>e=.returned (.bool (yE xs ys))/\Below w.heap.size w w':=by
 unfold maxLen at hn' hm'
 by_cases hnm:xs.length=ys.length
 .obtain⟨n,hn0⟩:∃n,ys.length=n:=⟨_,rfl⟩;rw[hn0]at hnm;have hn:Hid (xs.length=n):=hnm;have hm:Hid (ys.length=n):=hn0;rw[hnm]at hx hn' |-;rw[hn0]at hy hm' |-;clear hnm hn0
  go_enter Tryz.func26,Tryz.ntmps26
  go_wp2_with fail
  go_loopw [5] (fun i w'=>∃k:Nat,k<=n/\i=.int .i64 k/\Hid (xs.take k=ys.take k)/\Below w.heap.size w w') (fun i _=>n-(intOf i).toNat)
  case atStart=>exact⟨0,Nat.zero_le _,rfl,rfl,Below.refl _ _⟩
  case round=>
   obtain⟨k,hk,rfl,ht,hb⟩:=hrel
   by_cases hlt:k<n
   .obtain⟨ba,oa,x,rfl,_,hba,hxk,x0⟩:=Jv (hx.below hb) hn.out hlt;obtain⟨bb,ob,y,rfl,_,hbb,hyk,y0⟩:=Jv (hy.below hb) hm.out hlt;cases hd:(x !=y)
    case true=>
     go_wp2_with fail
     go_quiet (fail)
     go_wp2_with fail
     go_ret;exact⟨by rw[jY (La hxk hyk (by rintro rfl;simp at hd))];rfl,hb.drewN _⟩
    go_wp2_with fail
    go_quiet (fail)
    go_wp2_with fail
    exact⟨⟨k+1,by omega,by go_num,nk ht hxk hyk (by simpa using hd),hb.drewN _⟩,by simp[intOf];omega⟩
   .have:k=n:=by omega
    subst this
    go_wp2_with fail
    go_ret;exact⟨by rw[uZ (take_eq_all ht hn hm)];rfl,hb⟩
 .have hne:=jY (Es (xs:=xs) (ys:=ys) rfl rfl hnm);generalize xs.length=n at*;generalize ys.length=m at*
  go_enter Tryz.func26,Tryz.ntmps26
  go_wp2_with fail
  go_ret;exact⟨by rw[hne];rfl,Below.refl _ _⟩
theorem KJ(xs ys:List aU){A B:Option Addr}{c d:Nat}{b1 b2}(w:World)(hx:T1 w (.sl xs.length (xs.flatMap aU.enc)) b1 (.slice A xs.length c))(hy:T1 w (.sl ys.length (ys.flatMap aU.enc)) b2 (.slice B ys.length d))(hn':xs.length<=maxLen)(hm':ys.length<=maxLen):
  Calls Tryz.prog 115 #[.slice A xs.length c,.slice B ys.length d] w fun e w'=>e=.returned (.bool (yE xs ys))/\Below w.heap.size w w':=by
 unfold maxLen at hn' hm'
 by_cases hnm:xs.length=ys.length
 .obtain⟨n,hn0⟩:∃n,ys.length=n:=⟨_,rfl⟩;rw[hn0]at hnm;have hn:Hid (xs.length=n):=hnm;have hm:Hid (ys.length=n):=hn0;rw[hnm]at hx hn' |-;rw[hn0]at hy hm' |-;clear hnm hn0
  go_enter Tryz.func115,Tryz.ntmps115
  go_wp2_with fail
  go_loopw [5] (fun i w'=>∃k:Nat,k<=n/\i=.int .i64 k/\Hid (xs.take k=ys.take k)/\Below w.heap.size w w') (fun i _=>n-(intOf i).toNat)
  case atStart=>exact⟨0,Nat.zero_le _,rfl,rfl,Below.refl _ _⟩
  case round=>
   obtain⟨k,hk,rfl,ht,hb⟩:=hrel
   by_cases hlt:k<n
   .obtain⟨ba,oa,x,rfl,hba,hxk,x0,x1⟩:=aU.wL (hx.below hb) hn.out hlt;obtain⟨bb,ob,y,rfl,hbb,hyk,y0,y1⟩:=aU.wL (hy.below hb) hm.out hlt;have nx:=aU.JB (w:=wr) (x:=x);have ny:=aU.JB (w:=wr) (x:=y);cases hd:yE x y
    case false=>
     have hcall:=fun e:bL wr=>DR x y _ (nx.below e.h) (ny.below e.h)
     rw[hd]at hcall;have HC:=Lib.hid hcall;clear hcall
     go_wp2_with fail
     have hext:=bL.cell (w:=wr);refine eF (by kernel_rfl) (by kernel_rfl) ?_
     repeat (go_big_quiet_step (exact Calls.mH (HC.out _)))
     refine wpQuiet_nil ?_;rintro _ ⟨e,rfl⟩;have hbe:=hb.trans (e.h.mono hb.size);clear hext
     go_wp2_with fail
     go_ret;exact⟨by rw[jY (La hxk hyk (DT hd))];rfl,hbe⟩
    have hcall:=fun e:bL wr=>DR x y _ (nx.below e.h) (ny.below e.h)
    rw[hd]at hcall;have HC:=Lib.hid hcall;clear hcall
    go_wp2_with fail
    have hext:=bL.cell (w:=wr);refine eF (by kernel_rfl) (by kernel_rfl) ?_
    repeat (go_big_quiet_step (exact Calls.mH (HC.out _)))
    refine wpQuiet_nil ?_;rintro _ ⟨e,rfl⟩;have hbe:=hb.trans (e.h.mono hb.size);clear hext
    go_wp2_with fail
    exact⟨⟨k+1,by omega,by go_num,nk ht hxk hyk (Cn hd),hbe⟩,by simp[intOf];omega⟩
   .have:k=n:=by omega
    subst this
    go_wp2_with fail
    go_ret;exact⟨by rw[uZ (take_eq_all ht hn hm)];rfl,hb⟩
 .have hne:=jY (Es (xs:=xs) (ys:=ys) rfl rfl hnm);generalize xs.length=n at*;generalize ys.length=m at*
  go_enter Tryz.func115,Tryz.ntmps115
  go_wp2_with fail
  go_ret;exact⟨by rw[hne];rfl,Below.refl _ _⟩
theorem Cj(x y:aH){b1 b2 us vs}(w:World)(hx:TN w x.enc b1 us)(hy:TN w y.enc b2 vs):
  Calls Tryz.prog 82 #[.agg us.toArray,.agg vs.toArray] w fun e w'=>e=.returned (.bool (yE x y))/\Below w.heap.size w w':=by
 obtain⟨Ax3,cx3,bx3,Ax4,cx4,bx4,rfl,rfl,tx3,lx3,mx3,tx4,lx4,mx4⟩:=aH.us hx;obtain⟨Ay3,cy3,by3,Ay4,cy4,by4,rfl,rfl,ty3,ly3,my3,ty4,ly4,my4⟩:=aH.us hy;have HB:=((Below.refl w.heap.size w).alloc (Nat.le_refl _) (.cells #[.int .i64 x.kind,.int .i64 x.level,.int .i64 x.value,.slice Ax3 x.data.length cx3,.slice Ax4 x.aO.length cx4] 117)).alloc (by simp) (.cells #[.int .i64 y.kind,.int .i64 y.level,.int .i64 y.value,.slice Ay3 y.data.length cy3,.slice Ay4 y.aO.length cy4] 117)
 go_enter Tryz.func82,Tryz.ntmps82
 cases hq0:(x.kind !=y.kind)
 case true=>
  go_wp2_with fail
  go_ret;exact⟨by rw[jY (fun e=>by rw[e]at hq0;simp at hq0)];rfl,HB⟩
 cases hq1:(x.level !=y.level)
 case true=>
  go_wp2_with fail
  go_ret;exact⟨by rw[jY (fun e=>by rw[e]at hq1;simp at hq1)];rfl,HB⟩
 cases hq2:(x.value !=y.value)
 case true=>
  go_wp2_with fail
  go_ret;exact⟨by rw[jY (fun e=>by rw[e]at hq2;simp at hq2)];rfl,HB⟩
 have sx3:=tx3.below HB;have sy3:=ty3.below HB
 go_wp2_with fail
 refine(I7 x.data y.data _ sx3 sy3 (Nat.le_trans lx3 mx3) (Nat.le_trans ly3 my3)).mono ?_;rintro e w1 ⟨rfl,hb1⟩;have B1:=HB.trans (hb1.mono HB.size);obtain⟨hc1,hf1⟩:=Sj hb1;have hz1:w.heap.size+1<w1.heap.size:=by have:=hb1.size;simp at this;omega
 have ha1:=fun o=>hc1 w.heap.size o (by first|(simp;done)|(simp;omega))
 have he1:=fun o=>hc1 (w.heap.size+1) o (by first|(simp;done)|(simp;omega))
 have hg1:=fun o=>hf1 w.heap.size o (by first|(simp;done)|(simp;omega))
 have hi1:=fun o=>hf1 (w.heap.size+1) o (by first|(simp;done)|(simp;omega))
 clear hc1 hf1;clear hb1;cases hq3:yE x.data y.data
 case false=>
  go_wp2_with fail
  go_ret;exact⟨by rw[jY (fun e=>by rw[e]at hq3;exact absurd hq3 (by simp[ow]))];rfl,B1⟩
 have sx4:=tx4.below B1;have sy4:=ty4.below B1
 go_wp2_with fail
 refine(KJ x.aO y.aO _ sx4 sy4 (Nat.le_trans lx4 mx4) (Nat.le_trans ly4 my4)).mono ?_;rintro e w2 ⟨rfl,hb2⟩;have B2:=B1.trans (hb2.mono B1.size);obtain⟨hc2,hf2⟩:=Sj hb2;have hz2:w.heap.size+1<w2.heap.size:=by have:=hb2.size;omega
 have ha2:=fun o=>(hc2 w.heap.size o (by omega)).trans (ha1 o)
 have he2:=fun o=>(hc2 (w.heap.size+1) o (by omega)).trans (he1 o)
 have hg2:=fun o=>(hf2 w.heap.size o (by omega)).trans (hg1 o)
 have hi2:=fun o=>(hf2 (w.heap.size+1) o (by omega)).trans (hi1 o)
 clear hc2 hf2;clear hb2;cases hq4:yE x.aO y.aO
 case false=>
  go_wp2_with fail
  go_ret;exact⟨by rw[jY (fun e=>by rw[e]at hq4;exact absurd hq4 (by simp[ow]))];rfl,B2⟩
 go_wp2_with fail
 go_ret;refine⟨?_,B2⟩;have hxy:x=y:=aH.MZ (show x.kind=y.kind by simpa using hq0) (show x.level=y.level by simpa using hq1) (show x.value=y.value by simpa using hq2) (Cn hq3) (Cn hq4);rw[uZ hxy];rfl
theorem I5(xs ys:List aH){A B:Option Addr}{c d:Nat}{b1 b2}(w:World)(hx:T1 w (.sl xs.length (xs.flatMap aH.enc)) b1 (.slice A xs.length c))(hy:T1 w (.sl ys.length (ys.flatMap aH.enc)) b2 (.slice B ys.length d))(hn':xs.length<=maxLen)(hm':ys.length<=maxLen):
  Calls Tryz.prog 50 #[.slice A xs.length c,.slice B ys.length d] w fun e w'=>e=.returned (.bool (yE xs ys))/\Below w.heap.size w w':=by
 unfold maxLen at hn' hm'
 by_cases hnm:xs.length=ys.length
 .obtain⟨n,hn0⟩:∃n,ys.length=n:=⟨_,rfl⟩;rw[hn0]at hnm;have hn:Hid (xs.length=n):=hnm;have hm:Hid (ys.length=n):=hn0;rw[hnm]at hx hn' |-;rw[hn0]at hy hm' |-;clear hnm hn0
  go_enter Tryz.func50,Tryz.ntmps50
  go_wp2_with fail
  go_loopw [5] (fun i w'=>∃k:Nat,k<=n/\i=.int .i64 k/\Hid (xs.take k=ys.take k)/\Below w.heap.size w w') (fun i _=>n-(intOf i).toNat)
  case atStart=>exact⟨0,Nat.zero_le _,rfl,rfl,Below.refl _ _⟩
  case round=>
   obtain⟨k,hk,rfl,ht,hb⟩:=hrel
   by_cases hlt:k<n
   .obtain⟨ba,oa,x,Ax3,cx3,px3,Ax4,cx4,px4,rfl,hba,hxk,x0,x1,x2,x3,x4,tx3,lx3,mx3,tx4,lx4,mx4⟩:=aH.wL (hx.below hb) hn.out hlt;obtain⟨bb,ob,y,Ay3,cy3,py3,Ay4,cy4,py4,rfl,hbb,hyk,y0,y1,y2,y3,y4,ty3,ly3,my3,ty4,ly4,my4⟩:=aH.wL (hy.below hb) hm.out hlt;have nx:=aH.JB (w:=wr) (x:=x) tx3 tx4;have ny:=aH.JB (w:=wr) (x:=y) ty3 ty4;cases hd:yE x y
    case false=>
     have hcall:=fun e:bL wr=>Cj x y _ (nx.below e.h) (ny.below e.h)
     rw[hd]at hcall;have HC:=Lib.hid hcall;clear hcall
     go_wp2_with fail
     have hext:=bL.cell (w:=wr);refine eF (by kernel_rfl) (by kernel_rfl) ?_
     repeat (go_big_quiet_step (exact Calls.mH (HC.out _)))
     refine wpQuiet_nil ?_;rintro _ ⟨e,rfl⟩;have hbe:=hb.trans (e.h.mono hb.size);clear hext
     go_wp2_with fail
     go_ret;exact⟨by rw[jY (La hxk hyk (DT hd))];rfl,hbe⟩
    have hcall:=fun e:bL wr=>Cj x y _ (nx.below e.h) (ny.below e.h)
    rw[hd]at hcall;have HC:=Lib.hid hcall;clear hcall
    go_wp2_with fail
    have hext:=bL.cell (w:=wr);refine eF (by kernel_rfl) (by kernel_rfl) ?_
    repeat (go_big_quiet_step (exact Calls.mH (HC.out _)))
    refine wpQuiet_nil ?_;rintro _ ⟨e,rfl⟩;have hbe:=hb.trans (e.h.mono hb.size);clear hext
    go_wp2_with fail
    exact⟨⟨k+1,by omega,by go_num,nk ht hxk hyk (Cn hd),hbe⟩,by simp[intOf];omega⟩
   .have:k=n:=by omega
    subst this
    go_wp2_with fail
    go_ret;exact⟨by rw[uZ (take_eq_all ht hn hm)];rfl,hb⟩
 .have hne:=jY (Es (xs:=xs) (ys:=ys) rfl rfl hnm);generalize xs.length=n at*;generalize ys.length=m at*
  go_enter Tryz.func50,Tryz.ntmps50
  go_wp2_with fail
  go_ret;exact⟨by rw[hne];rfl,Below.refl _ _⟩
theorem Bf(x y:bC){b1 b2 us vs}(w:World)(hx:TN w x.enc b1 us)(hy:TN w y.enc b2 vs):
  Calls Tryz.prog 18 #[.agg us.toArray,.agg vs.toArray] w fun e w'=>e=.returned (.bool (yE x y))/\Below w.heap.size w w':=by
 obtain⟨Ax0,cx0,bx0,rfl,rfl,tx0,lx0,mx0⟩:=bC.us hx;obtain⟨Ay0,cy0,by0,rfl,rfl,ty0,ly0,my0⟩:=bC.us hy;have HB:=((Below.refl w.heap.size w).alloc (Nat.le_refl _) (.cells #[.slice Ax0 x.agents.length cx0] 37)).alloc (by simp) (.cells #[.slice Ay0 y.agents.length cy0] 37)
 go_enter Tryz.func18,Tryz.ntmps18
 have sx0:=tx0.below HB;have sy0:=ty0.below HB
 go_wp2_with fail
 refine(I5 x.agents y.agents _ sx0 sy0 (Nat.le_trans lx0 mx0) (Nat.le_trans ly0 my0)).mono ?_;rintro e w1 ⟨rfl,hb1⟩;have B1:=HB.trans (hb1.mono HB.size);obtain⟨hc1,hf1⟩:=Sj hb1;have hz1:w.heap.size+1<w1.heap.size:=by have:=hb1.size;simp at this;omega
 have ha1:=fun o=>hc1 w.heap.size o (by first|(simp;done)|(simp;omega))
 have he1:=fun o=>hc1 (w.heap.size+1) o (by first|(simp;done)|(simp;omega))
 have hg1:=fun o=>hf1 w.heap.size o (by first|(simp;done)|(simp;omega))
 have hi1:=fun o=>hf1 (w.heap.size+1) o (by first|(simp;done)|(simp;omega))
 clear hc1 hf1;clear hb1;cases hq0:yE x.agents y.agents
 case false=>
  go_wp2_with fail
  go_ret;exact⟨by rw[jY (fun e=>by rw[e]at hq0;exact absurd hq0 (by simp[ow]))];rfl,B1⟩
 go_wp2_with fail
 go_ret;refine⟨?_,B1⟩;have hxy:x=y:=bC.MZ (Cn hq0);rw[uZ hxy];rfl
theorem MW(xs ys:List bC){A B:Option Addr}{c d:Nat}{b1 b2}(w:World)(hx:T1 w (.sl xs.length (xs.flatMap bC.enc)) b1 (.slice A xs.length c))(hy:T1 w (.sl ys.length (ys.flatMap bC.enc)) b2 (.slice B ys.length d))(hn':xs.length<=maxLen)(hm':ys.length<=maxLen):
  Calls Tryz.prog 17 #[.slice A xs.length c,.slice B ys.length d] w fun e w'=>e=.returned (.bool (yE xs ys))/\Below w.heap.size w w':=by
 unfold maxLen at hn' hm'
 by_cases hnm:xs.length=ys.length
 .obtain⟨n,hn0⟩:∃n,ys.length=n:=⟨_,rfl⟩;rw[hn0]at hnm;have hn:Hid (xs.length=n):=hnm;have hm:Hid (ys.length=n):=hn0;rw[hnm]at hx hn' |-;rw[hn0]at hy hm' |-;clear hnm hn0
  go_enter Tryz.func17,Tryz.ntmps17
  go_wp2_with fail
  go_loopw [5] (fun i w'=>∃k:Nat,k<=n/\i=.int .i64 k/\Hid (xs.take k=ys.take k)/\Below w.heap.size w w') (fun i _=>n-(intOf i).toNat)
  case atStart=>exact⟨0,Nat.zero_le _,rfl,rfl,Below.refl _ _⟩
  case round=>
   obtain⟨k,hk,rfl,ht,hb⟩:=hrel
   by_cases hlt:k<n
   .obtain⟨ba,oa,x,Ax0,cx0,px0,rfl,hba,hxk,x0,tx0,lx0,mx0⟩:=bC.wL (hx.below hb) hn.out hlt;obtain⟨bb,ob,y,Ay0,cy0,py0,rfl,hbb,hyk,y0,ty0,ly0,my0⟩:=bC.wL (hy.below hb) hm.out hlt;have nx:=bC.JB (w:=wr) (x:=x) tx0;have ny:=bC.JB (w:=wr) (x:=y) ty0;cases hd:yE x y
    case false=>
     have hcall:=fun e:bL wr=>Bf x y _ (nx.below e.h) (ny.below e.h)
     rw[hd]at hcall;have HC:=Lib.hid hcall;clear hcall
     go_wp2_with fail
     have hext:=bL.cell (w:=wr);refine eF (by kernel_rfl) (by kernel_rfl) ?_
     repeat (go_big_quiet_step (exact Calls.mH (HC.out _)))
     refine wpQuiet_nil ?_;rintro _ ⟨e,rfl⟩;have hbe:=hb.trans (e.h.mono hb.size);clear hext
     go_wp2_with fail
     go_ret;exact⟨by rw[jY (La hxk hyk (DT hd))];rfl,hbe⟩
    have hcall:=fun e:bL wr=>Bf x y _ (nx.below e.h) (ny.below e.h)
    rw[hd]at hcall;have HC:=Lib.hid hcall;clear hcall
    go_wp2_with fail
    have hext:=bL.cell (w:=wr);refine eF (by kernel_rfl) (by kernel_rfl) ?_
    repeat (go_big_quiet_step (exact Calls.mH (HC.out _)))
    refine wpQuiet_nil ?_;rintro _ ⟨e,rfl⟩;have hbe:=hb.trans (e.h.mono hb.size);clear hext
    go_wp2_with fail
    exact⟨⟨k+1,by omega,by go_num,nk ht hxk hyk (Cn hd),hbe⟩,by simp[intOf];omega⟩
   .have:k=n:=by omega
    subst this
    go_wp2_with fail
    go_ret;exact⟨by rw[uZ (take_eq_all ht hn hm)];rfl,hb⟩
 .have hne:=jY (Es (xs:=xs) (ys:=ys) rfl rfl hnm);generalize xs.length=n at*;generalize ys.length=m at*
  go_enter Tryz.func17,Tryz.ntmps17
  go_wp2_with fail
  go_ret;exact⟨by rw[hne];rfl,Below.refl _ _⟩
theorem Oh(x:aU)(w:World):
  Calls Tryz.prog 134 #[.agg #[.int .i64 x.agent,.int .i64 x.slot]] w fun e w'=>e=.returned (.agg #[.int .i64 x.agent,.int .i64 x.slot])/\Below w.heap.size w w':=by
 go_enter Tryz.func134,Tryz.ntmps134
 go_wp2
 refine bodyPost_ret (v:=.agg #[.int .i64 x.agent,.int .i64 x.slot]) (by simp[results,Tryz.results134,go_sem]) rfl ⟨rfl,?_⟩;exact(by repeat (first|exact Below.refl _ _|assumption|(refine Below.setCell ?_ (by first|omega|(simp;done)|(simp;omega)) _)|(refine Below.alloc ?_ (by first|omega|(simp;done)|(simp;omega)) _)))
theorem J5(xs:List Int){A:Option Addr}{c:Nat}{b1}(w:World)(hx:T1 w (.sl xs.length (xs.flatMap dJ)) b1 (.slice A xs.length c))(hs:xs.length<=1048576):
  Calls Tryz.prog 24 #[.slice A xs.length c] w fun e w'=>∃A' c' bs,e=.returned (.slice A' xs.length c')/\Below w.heap.size w w'/\T1 w' (.sl xs.length (xs.flatMap dJ)) bs (.slice A' xs.length c')/\Own w.heap.size w' bs:=by
 have hs1:=Lib.hid hs;have hn':xs.length<=1048576:=hs;clear hs;have hn:Hid (xs.length=xs.length):=rfl;generalize hl:xs.length=n at hx hn' hn |-
 replace hn:Hid (xs.length=n):=hl
 clear hl;obtain⟨M,hms,hmk,hsz'⟩:=rE (P:=Tryz.prog) (t:=47) (e:=2) (s:=1) (by kernel_rfl) Tryz.underlying47 hn';have hsz:=hsz';have Hms:=Lib.hid hms;clear hsz' hms
 go_enter Tryz.func24,Tryz.ntmps24
 go_wp2_with fail
 go_loopw [4] (fun i w'=>∃k:Nat,k<=n/\i=.int .i64 k/\Below w.heap.size w w'/\∃bs us,iE w' w.heap.size 2 n 1 us/\us.length=k*1/\TN w' ((xs.take k).flatMap dJ) bs us/\Own (w.heap.size+1) w' bs) (fun i _=>n-(intOf i).toNat)
 case atStart=>exact⟨0,by omega,rfl,(Below.refl _ _).alloc (Nat.le_refl _) _,[],[],iE.new _ _ 2 n 1 Hms.out,by simp,by simpa using TN.done,Own.nil _ _⟩
 case round=>
  obtain⟨k,hk,rfl,hb,bs,us,hrow,hul,ht,ho⟩:=hrel
  by_cases hlt:k<n
  .obtain⟨ba,oa,x,rfl,_,hba,hxk,x0⟩:=Jv (hx.below hb) hn.out hlt;have hul':=Lib.hid hul;clear hul;have hT:=TN.append.2 ⟨bs,[],us,_,rfl,rfl,ht,TN.vR (w:=wr) (x:=.int .i64 x) rfl TN.done⟩
   go_wp2_with (refine iJ rfl 2 (.tmp 20) (.tmp 19) rfl w.heap.size 2 n 1 k us (.int .i64 x) (by rw[Nat.mul_one];rfl) rfl hrow hul'.out hlt hsz.h rfl rfl ?_;intro w2 hr2 hb2 hs2 ho2)
   have hbt:But w.heap.size wr w2:=⟨hb2.os,hb2.tape,hb2.output,hb2.size,fun j _ hj=>ho2 j hj⟩
   go_roundw
   case rel=>exact⟨k+1,by omega,by go_num,hb.trans hb2,bs++[],_,hr2,by simp[hul'.out,Value.cells,Nat.add_mul],by rw[p9 dJ hxk];exact hT.but hbt (by simpa using ho.wX (by omega)),by simpa using ho.but hbt (ho.wX (by omega))⟩
   case measure=>simp[intOf];omega
  .have:k=n:=by omega
   subst this
   go_wp2_with fail
   go_ret;rw[qN (by rw[hn.out];exact Nat.le_refl _)]at ht;rcases Nat.eq_zero_or_pos k with h0|h0
   .subst h0;have:xs=[]:=List.eq_nil_of_length_eq_zero hn.out;subst this;exact⟨_,_,[],rfl,hb,T1.empty _,Own.nil _ _⟩
   .obtain⟨cur,t',hg⟩:=hrow.own;exact⟨_,_,w.heap.size::bs,rfl,hb,T1.Ez hrow h0 (by unfold maxLen;omega) ht,Own.cons hg (Nat.le_refl _) ho⟩
theorem Mh(xs:List aU){A:Option Addr}{c:Nat}{b1}(w:World)(hx:T1 w (.sl xs.length (xs.flatMap aU.enc)) b1 (.slice A xs.length c))(hs:xs.length<=1048576/\∀y∈xs,aU.small y):
  Calls Tryz.prog 103 #[.slice A xs.length c] w fun e w'=>∃A' c' bs,e=.returned (.slice A' xs.length c')/\Below w.heap.size w w'/\T1 w' (.sl xs.length (xs.flatMap aU.enc)) bs (.slice A' xs.length c')/\Own w.heap.size w' bs:=by
 have hs1:=Lib.hid hs;have hn':xs.length<=1048576:=hs.1;clear hs;have hn:Hid (xs.length=xs.length):=rfl;generalize hl:xs.length=n at hx hn' hn |-
 replace hn:Hid (xs.length=n):=hl
 clear hl;obtain⟨M,hms,hmk,hsz'⟩:=rE (P:=Tryz.prog) (t:=115) (e:=119) (s:=2) (by kernel_rfl) Tryz.underlying115 hn';have hsz:=hsz';have Hms:=Lib.hid hms;clear hsz' hms
 go_enter Tryz.func103,Tryz.ntmps103
 go_wp2_with fail
 go_loopw [4] (fun i w'=>∃k:Nat,k<=n/\i=.int .i64 k/\Below w.heap.size w w'/\∃bs us,iE w' w.heap.size 119 n 2 us/\us.length=k*2/\TN w' ((xs.take k).flatMap aU.enc) bs us/\Own (w.heap.size+1) w' bs) (fun i _=>n-(intOf i).toNat)
 case atStart=>exact⟨0,by omega,rfl,(Below.refl _ _).alloc (Nat.le_refl _) _,[],[],iE.new _ _ 119 n 2 Hms.out,by simp,by simpa using TN.done,Own.nil _ _⟩
 case round=>
  obtain⟨k,hk,rfl,hb,bs,us,hrow,hul,ht,ho⟩:=hrel
  by_cases hlt:k<n
  .obtain⟨ba,oa,x,rfl,hba,hxk,x0,x1⟩:=aU.wL (hx.below hb) hn.out hlt;have hul':=Lib.hid hul;clear hul
   go_wp2_with fail
   refine(Oh x _).mono ?_;rintro e w1 ⟨rfl,hb1⟩;have hT:=TN.append.2 ⟨bs,[],us,_,rfl,rfl,ht.below hb1,aU.JB (w:=w1) (x:=x)⟩
   go_wp2_with (refine iJ rfl 119 (.tmp 21) (.tmp 20) rfl w.heap.size 119 n 2 k us (.agg #[.int .i64 x.agent,.int .i64 x.slot]) rfl rfl (hrow.below hb1) hul'.out hlt hsz.h rfl rfl ?_;intro w2 hr2 hb2 hs2 ho2)
   have hbt:But w.heap.size w1 w2:=⟨hb2.os,hb2.tape,hb2.output,hb2.size,fun j _ hj=>ho2 j hj⟩
   go_roundw
   case rel=>exact⟨k+1,by omega,by go_num,(hb.trans (hb1.mono hb.size)).trans hb2,bs++[],_,hr2,by simp[hul'.out,Value.cells,Nat.add_mul],by rw[p9 aU.enc hxk];exact hT.but hbt (by simpa using ho.wX (by omega)),by simpa using(ho.below hb1).but hbt (ho.wX (by omega))⟩
   case measure=>simp[intOf];omega
  .have:k=n:=by omega
   subst this
   go_wp2_with fail
   go_ret;rw[qN (by rw[hn.out];exact Nat.le_refl _)]at ht;rcases Nat.eq_zero_or_pos k with h0|h0
   .subst h0;have:xs=[]:=List.eq_nil_of_length_eq_zero hn.out;subst this;exact⟨_,_,[],rfl,hb,T1.empty _,Own.nil _ _⟩
   .obtain⟨cur,t',hg⟩:=hrow.own;exact⟨_,_,w.heap.size::bs,rfl,hb,T1.Ez hrow h0 (by unfold maxLen;omega) ht,Own.cons hg (Nat.le_refl _) ho⟩
theorem Mf(x:aH){b us}(w:World)(hx:TN w x.enc b us)(hs:x.small):
  Calls Tryz.prog 72 #[.agg us.toArray] w fun e w'=>∃vs bs,e=.returned (.agg vs.toArray)/\Below w.heap.size w w'/\TN w' x.enc bs vs/\Own w.heap.size w' bs:=by
 obtain⟨Ax3,cx3,bx3,Ax4,cx4,bx4,rfl,rfl,tx3,lx3,mx3,tx4,lx4,mx4⟩:=aH.us hx;obtain⟨s3,s4⟩:=hs
 go_enter Tryz.func72,Tryz.ntmps72
 have B0:∀S Z O,Below w.heap.size w (((w.alloc S).alloc Z).alloc O):=fun _ _ _=>(((Below.refl _ _).alloc (Nat.le_refl _) _).alloc (by simp) _).alloc (by simp;omega) _
 go_wp2_with fail
 refine(J5 x.data _ (tx3.below (B0 _ _ _)) s3).mono ?_;rintro e w1 ⟨A1,a1,d1,rfl,hb1,y1,o1⟩;have z1:w.heap.size+2<w1.heap.size:=by have:=hb1.size;simp at this;omega
 have B1:Below w.heap.size w w1:=Below.trans (B0 _ _ _) (hb1.mono (by simp<;>omega))
 replace o1:Own (w.heap.size+3) w1 d1:=by simpa using o1
 have r1_0:=(hb1.block w.heap.size (by simp<;>omega)).trans (Ih w _ _ _).1;have r1_1:=(hb1.block (w.heap.size+1) (by simp<;>omega)).trans (Ih w _ _ _).2.1;have r1_2:=(hb1.block (w.heap.size+1+1) (by simp<;>omega)).trans (Ih w _ _ _).2.2;have q1_0_0:=cell_of_row _ _ 0 _ _ _ r1_0;have q1_0_1:=cell_of_row _ _ 1 _ _ _ r1_0;have q1_0_2:=cell_of_row _ _ 2 _ _ _ r1_0;have q1_0_3:=cell_of_row _ _ 3 _ _ _ r1_0;have q1_0_4:=cell_of_row _ _ 4 _ _ _ r1_0;simp only[List.getElem?_toArray,List.getElem?_cons_zero,List.getElem?_cons_succ]at q1_0_0 q1_0_1 q1_0_2 q1_0_3 q1_0_4
 have f1_0:=gT r1_0;have q1_1_0:=cell_of_row _ _ 0 _ _ _ r1_1;have q1_1_1:=cell_of_row _ _ 1 _ _ _ r1_1;have q1_1_2:=cell_of_row _ _ 2 _ _ _ r1_1;have q1_1_3:=cell_of_row _ _ 3 _ _ _ r1_1;have q1_1_4:=cell_of_row _ _ 4 _ _ _ r1_1;simp only[List.getElem?_toArray,List.getElem?_cons_zero,List.getElem?_cons_succ]at q1_1_0 q1_1_1 q1_1_2 q1_1_3 q1_1_4;have f1_1:=gT r1_1;have q1_2_0:=cell_of_row _ _ 0 _ _ _ r1_2;have q1_2_1:=cell_of_row _ _ 1 _ _ _ r1_2;have q1_2_2:=cell_of_row _ _ 2 _ _ _ r1_2;have q1_2_3:=cell_of_row _ _ 3 _ _ _ r1_2;have q1_2_4:=cell_of_row _ _ 4 _ _ _ r1_2
 simp only[List.getElem?_toArray,List.getElem?_cons_zero,List.getElem?_cons_succ]at q1_2_0 q1_2_1 q1_2_2 q1_2_3 q1_2_4;have f1_2:=gT r1_2;clear hb1
 go_wp2_with fail
 refine(Mh x.aO _ (tx4.below (B1.setCell (by simp<;>omega) _)) s4).mono ?_;rintro e w2 ⟨A2,a2,d2,rfl,hb2,y2,o2⟩;have z2:w.heap.size+2<w2.heap.size:=by have:=hb2.size;simp at this;omega
 have B2:Below w.heap.size w w2:=Below.trans (B1.setCell (by simp<;>omega) _) (hb2.mono (by simp<;>omega));have g2:Cz (w.heap.size+3) w1 w2:=Cz.below ((Cz.refl (w.heap.size+3) _).setCell (by simp<;>omega) _) hb2
 replace o2:Own w1.heap.size w2 d2:=by simpa using o2
 have r2_0:=(hb2.block w.heap.size (by simp<;>omega)).trans ((Below.heap_setCell _ _ _ _ (by simp<;>omega)).trans r1_0);have r2_1:=(hb2.block (w.heap.size+1) (by simp<;>omega)).trans ((Below.heap_setCell _ _ _ _ (by simp<;>omega)).trans r1_1);have r2_2:=(hb2.block (w.heap.size+1+1) (by simp<;>omega)).trans (Rows.sU r1_2);simp only[List.setIfInBounds_toArray,List.set_cons_zero,List.set_cons_succ]at r2_2;have q2_0_0:=cell_of_row _ _ 0 _ _ _ r2_0;have q2_0_1:=cell_of_row _ _ 1 _ _ _ r2_0;have q2_0_2:=cell_of_row _ _ 2 _ _ _ r2_0;have q2_0_3:=cell_of_row _ _ 3 _ _ _ r2_0
 have q2_0_4:=cell_of_row _ _ 4 _ _ _ r2_0;simp only[List.getElem?_toArray,List.getElem?_cons_zero,List.getElem?_cons_succ]at q2_0_0 q2_0_1 q2_0_2 q2_0_3 q2_0_4;have f2_0:=gT r2_0;have q2_1_0:=cell_of_row _ _ 0 _ _ _ r2_1;have q2_1_1:=cell_of_row _ _ 1 _ _ _ r2_1;have q2_1_2:=cell_of_row _ _ 2 _ _ _ r2_1;have q2_1_3:=cell_of_row _ _ 3 _ _ _ r2_1;have q2_1_4:=cell_of_row _ _ 4 _ _ _ r2_1;simp only[List.getElem?_toArray,List.getElem?_cons_zero,List.getElem?_cons_succ]at q2_1_0 q2_1_1 q2_1_2 q2_1_3 q2_1_4;have f2_1:=gT r2_1;have q2_2_0:=cell_of_row _ _ 0 _ _ _ r2_2
 have q2_2_1:=cell_of_row _ _ 1 _ _ _ r2_2;have q2_2_2:=cell_of_row _ _ 2 _ _ _ r2_2;have q2_2_3:=cell_of_row _ _ 3 _ _ _ r2_2;have q2_2_4:=cell_of_row _ _ 4 _ _ _ r2_2;simp only[List.getElem?_toArray,List.getElem?_cons_zero,List.getElem?_cons_succ]at q2_2_0 q2_2_1 q2_2_2 q2_2_3 q2_2_4;have f2_2:=gT r2_2;clear r1_0 f1_0 q1_0_0 q1_0_1 q1_0_2 q1_0_3 q1_0_4 r1_1 f1_1 q1_1_0 q1_1_1 q1_1_2 q1_1_3 q1_1_4 r1_2 f1_2 q1_2_0 q1_2_1 q1_2_2 q1_2_3 q1_2_4;clear hb2
 go_wp2_with fail
 have HG:∀W',Cz (w.heap.size+3) w2 W'->TN W' x.enc (d1++d2) [.int .i64 x.kind,.int .i64 x.level,.int .i64 x.value,.slice A1 x.data.length a1,.slice A2 x.aO.length a2]/\Own w.heap.size W' (d1++d2):=by
  intro W' hW;have k2:=hW;have k1:=g2.trans k2;have s_1:w1.heap.size<=w2.heap.size:=g2.1;have ht:=aH.JB (w:=W') (x:=x) (y1.YZ k1 o1.ge) (y2.YZ k2 (fun b hb=>Nat.le_trans (by omega) (o2.ge b hb)));have p1:Own w.heap.size W' d1:=(o1.YZ k1 (by omega)).mono (by omega);have l1:∀b∈d1,b<w1.heap.size:=o1.lt;have p2:Own w.heap.size W' (d1++d2):=Own.append p1 (fun b hb=>qW (l1 b hb) (by omega)) (o2.YZ k2 (by omega)) (by omega);have l2:∀b∈d1++d2,b<w2.heap.size:=fun b hb=>(List.mem_append.1 hb).elim (fun h=>qW (l1 b h) (by omega)) (o2.lt b)
  exact⟨by simpa[qF]using ht,p2⟩
 refine bodyPost_ret (v:=.agg #[.int .i64 x.kind,.int .i64 x.level,.int .i64 x.value,.slice A1 x.data.length a1,.slice A2 x.aO.length a2]) (by simp[results,Tryz.results72,go_sem,q2_1_0,q2_1_1,q2_1_2,q2_1_3,q2_1_4]) rfl ?_;refine⟨_,_,rfl,?_,HG _ ?_⟩
 .repeat (refine Below.setCell ?_ (by simp<;>omega) _)
  exact B2
 .repeat (refine Cz.setCell ?_ (by simp<;>omega) _)
  exact Cz.refl _ _
theorem J4(xs:List aH){A:Option Addr}{c:Nat}{b1}(w:World)(hx:T1 w (.sl xs.length (xs.flatMap aH.enc)) b1 (.slice A xs.length c))(hs:xs.length<=1048576/\∀y∈xs,aH.small y):
  Calls Tryz.prog 42 #[.slice A xs.length c] w fun e w'=>∃A' c' bs,e=.returned (.slice A' xs.length c')/\Below w.heap.size w w'/\T1 w' (.sl xs.length (xs.flatMap aH.enc)) bs (.slice A' xs.length c')/\Own w.heap.size w' bs:=by
 have hs1:=Lib.hid hs;have hn':xs.length<=1048576:=hs.1;clear hs;have hn:Hid (xs.length=xs.length):=rfl;generalize hl:xs.length=n at hx hn' hn |-
 replace hn:Hid (xs.length=n):=hl
 clear hl;obtain⟨M,hms,hmk,hsz'⟩:=rE (P:=Tryz.prog) (t:=35) (e:=117) (s:=5) (by kernel_rfl) Tryz.underlying35 hn';have hsz:=hsz';have Hms:=Lib.hid hms;clear hsz' hms
 go_enter Tryz.func42,Tryz.ntmps42
 go_wp2_with fail
 go_loopw [4] (fun i w'=>∃k:Nat,k<=n/\i=.int .i64 k/\Below w.heap.size w w'/\∃bs us,iE w' w.heap.size 117 n 5 us/\us.length=k*5/\TN w' ((xs.take k).flatMap aH.enc) bs us/\Own (w.heap.size+1) w' bs) (fun i _=>n-(intOf i).toNat)
 case atStart=>exact⟨0,by omega,rfl,(Below.refl _ _).alloc (Nat.le_refl _) _,[],[],iE.new _ _ 117 n 5 Hms.out,by simp,by simpa using TN.done,Own.nil _ _⟩
 case round=>
  obtain⟨k,hk,rfl,hb,bs,us,hrow,hul,ht,ho⟩:=hrel
  by_cases hlt:k<n
  .obtain⟨ba,oa,x,Ax3,cx3,px3,Ax4,cx4,px4,rfl,hba,hxk,x0,x1,x2,x3,x4,tx3,lx3,mx3,tx4,lx4,mx4⟩:=aH.wL (hx.below hb) hn.out hlt;have nx:=aH.JB (w:=wr) (x:=x) tx3 tx4;have hul':=Lib.hid hul;clear hul
   go_wp2_with fail
   refine(Mf x _ nx (hs1.out.2 x (List.mem_of_getElem? hxk.out))).mono ?_;rintro e w1 ⟨vs,ds,rfl,hb1,hy,oy⟩;have hvl:vs.toArray.size=5:=by have:=hy.length;simpa[aH.enc]using this
   have hv1:vs.all (·.oneCell')=true:=hy.EF;have hT:=TN.append.2 ⟨bs,_,us,vs,rfl,rfl,ht.below hb1,hy⟩;have hO:Own (w.heap.size+1) w1 (bs++ds):=Own.append (ho.below hb1) ho.lt oy (by have:=hrow.lt;omega)
   go_wp2_with (refine iJ rfl 117 (.tmp 21) (.tmp 20) rfl w.heap.size 117 n 5 k us (.agg vs.toArray) (by first|rfl|(rw[Nat.mul_one];rfl)) rfl (hrow.below hb1) hul'.out hlt hsz.h hvl (by simpa[Value.cells]using hv1) ?_;intro w2 hr2 hb2 hs2 ho2)
   have hbt:But w.heap.size w1 w2:=⟨hb2.os,hb2.tape,hb2.output,hb2.size,fun j _ hj=>ho2 j hj⟩
   go_roundw
   case rel=>exact⟨k+1,by omega,by go_num,(hb.trans (hb1.mono hb.size)).trans hb2,_,_,hr2,by have:=hvl;simp[hul'.out,Value.cells,Nat.add_mul]at this |-;omega,by rw[p9 aH.enc hxk];exact hT.but hbt (hO.wX (by omega)),hO.but hbt (hO.wX (by omega))⟩
   case measure=>simp[intOf];omega
  .have:k=n:=by omega
   subst this
   go_wp2_with fail
   go_ret;rw[qN (by rw[hn.out];exact Nat.le_refl _)]at ht;rcases Nat.eq_zero_or_pos k with h0|h0
   .subst h0;have:xs=[]:=List.eq_nil_of_length_eq_zero hn.out;subst this;exact⟨_,_,[],rfl,hb,T1.empty _,Own.nil _ _⟩
   .obtain⟨cur,t',hg⟩:=hrow.own;exact⟨_,_,w.heap.size::bs,rfl,hb,T1.Ez hrow h0 (by unfold maxLen;omega) ht,Own.cons hg (Nat.le_refl _) ho⟩
theorem uM(x:bC){b us}(w:World)(hx:TN w x.enc b us)(hs:x.small):
  Calls Tryz.prog 13 #[.agg us.toArray] w fun e w'=>∃vs bs,e=.returned (.agg vs.toArray)/\Below w.heap.size w w'/\TN w' x.enc bs vs/\Own w.heap.size w' bs:=by
 obtain⟨Ax0,cx0,bx0,rfl,rfl,tx0,lx0,mx0⟩:=bC.us hx;have s0:=hs
 go_enter Tryz.func13,Tryz.ntmps13
 have B0:∀S Z O,Below w.heap.size w (((w.alloc S).alloc Z).alloc O):=fun _ _ _=>(((Below.refl _ _).alloc (Nat.le_refl _) _).alloc (by simp) _).alloc (by simp;omega) _
 go_wp2_with fail
 refine(J4 x.agents _ (tx0.below (B0 _ _ _)) s0).mono ?_;rintro e w1 ⟨A1,a1,d1,rfl,hb1,y1,o1⟩;have z1:w.heap.size+2<w1.heap.size:=by have:=hb1.size;simp at this;omega
 have B1:Below w.heap.size w w1:=Below.trans (B0 _ _ _) (hb1.mono (by simp<;>omega))
 replace o1:Own (w.heap.size+3) w1 d1:=by simpa using o1
 have r1_0:=(hb1.block w.heap.size (by simp<;>omega)).trans (Ih w _ _ _).1;have r1_1:=(hb1.block (w.heap.size+1) (by simp<;>omega)).trans (Ih w _ _ _).2.1;have r1_2:=(hb1.block (w.heap.size+1+1) (by simp<;>omega)).trans (Ih w _ _ _).2.2;have q1_0_0:=cell_of_row _ _ 0 _ _ _ r1_0;simp only[List.getElem?_toArray,List.getElem?_cons_zero,List.getElem?_cons_succ]at q1_0_0;have f1_0:=gT r1_0;have q1_1_0:=cell_of_row _ _ 0 _ _ _ r1_1;simp only[List.getElem?_toArray,List.getElem?_cons_zero,List.getElem?_cons_succ]at q1_1_0;have f1_1:=gT r1_1
 have q1_2_0:=cell_of_row _ _ 0 _ _ _ r1_2;simp only[List.getElem?_toArray,List.getElem?_cons_zero,List.getElem?_cons_succ]at q1_2_0;have f1_2:=gT r1_2;clear hb1
 go_wp2_with fail
 have HG:∀W',Cz (w.heap.size+3) w1 W'->TN W' x.enc (d1) [.slice A1 x.agents.length a1]/\Own w.heap.size W' (d1):=by
  intro W' hW;have k1:=hW;have ht:=bC.JB (w:=W') (x:=x) (y1.YZ k1 o1.ge);have p1:Own w.heap.size W' d1:=(o1.YZ k1 (by omega)).mono (by omega);have l1:∀b∈d1,b<w1.heap.size:=o1.lt;exact⟨by simpa[qF]using ht,p1⟩
 refine bodyPost_ret (v:=.agg #[.slice A1 x.agents.length a1]) (by simp[results,Tryz.results13,go_sem,q1_1_0]) rfl ?_;refine⟨_,_,rfl,?_,HG _ ?_⟩
 .repeat (refine Below.setCell ?_ (by simp<;>omega) _)
  exact B1
 .repeat (refine Cz.setCell ?_ (by simp<;>omega) _)
  exact Cz.refl _ _
theorem vQ(xs:List bC){A:Option Addr}{c:Nat}{b1}(w:World)(hx:T1 w (.sl xs.length (xs.flatMap bC.enc)) b1 (.slice A xs.length c))(hs:xs.length<=1048576/\∀y∈xs,bC.small y):
  Calls Tryz.prog 12 #[.slice A xs.length c] w fun e w'=>∃A' c' bs,e=.returned (.slice A' xs.length c')/\Below w.heap.size w w'/\T1 w' (.sl xs.length (xs.flatMap bC.enc)) bs (.slice A' xs.length c')/\Own w.heap.size w' bs:=by
 have hs1:=Lib.hid hs;have hn':xs.length<=1048576:=hs.1;clear hs;have hn:Hid (xs.length=xs.length):=rfl;generalize hl:xs.length=n at hx hn' hn |-
 replace hn:Hid (xs.length=n):=hl
 clear hl;obtain⟨M,hms,hmk,hsz'⟩:=rE (P:=Tryz.prog) (t:=33) (e:=37) (s:=1) (by kernel_rfl) Tryz.underlying33 hn';have hsz:=hsz';have Hms:=Lib.hid hms;clear hsz' hms
 go_enter Tryz.func12,Tryz.ntmps12
 go_wp2_with fail
 go_loopw [4] (fun i w'=>∃k:Nat,k<=n/\i=.int .i64 k/\Below w.heap.size w w'/\∃bs us,iE w' w.heap.size 37 n 1 us/\us.length=k*1/\TN w' ((xs.take k).flatMap bC.enc) bs us/\Own (w.heap.size+1) w' bs) (fun i _=>n-(intOf i).toNat)
 case atStart=>exact⟨0,by omega,rfl,(Below.refl _ _).alloc (Nat.le_refl _) _,[],[],iE.new _ _ 37 n 1 Hms.out,by simp,by simpa using TN.done,Own.nil _ _⟩
 case round=>
  obtain⟨k,hk,rfl,hb,bs,us,hrow,hul,ht,ho⟩:=hrel
  by_cases hlt:k<n
  .obtain⟨ba,oa,x,Ax0,cx0,px0,rfl,hba,hxk,x0,tx0,lx0,mx0⟩:=bC.wL (hx.below hb) hn.out hlt;have nx:=bC.JB (w:=wr) (x:=x) tx0;have hul':=Lib.hid hul;clear hul
   go_wp2_with fail
   refine(uM x _ nx (hs1.out.2 x (List.mem_of_getElem? hxk.out))).mono ?_;rintro e w1 ⟨vs,ds,rfl,hb1,hy,oy⟩;have hvl:vs.toArray.size=1:=by have:=hy.length;simpa[bC.enc]using this
   have hv1:vs.all (·.oneCell')=true:=hy.EF;have hT:=TN.append.2 ⟨bs,_,us,vs,rfl,rfl,ht.below hb1,hy⟩;have hO:Own (w.heap.size+1) w1 (bs++ds):=Own.append (ho.below hb1) ho.lt oy (by have:=hrow.lt;omega)
   go_wp2_with (refine iJ rfl 37 (.tmp 21) (.tmp 20) rfl w.heap.size 37 n 1 k us (.agg vs.toArray) (by first|rfl|(rw[Nat.mul_one];rfl)) rfl (hrow.below hb1) hul'.out hlt hsz.h hvl (by simpa[Value.cells]using hv1) ?_;intro w2 hr2 hb2 hs2 ho2)
   have hbt:But w.heap.size w1 w2:=⟨hb2.os,hb2.tape,hb2.output,hb2.size,fun j _ hj=>ho2 j hj⟩
   go_roundw
   case rel=>exact⟨k+1,by omega,by go_num,(hb.trans (hb1.mono hb.size)).trans hb2,_,_,hr2,by have:=hvl;simp[hul'.out,Value.cells,Nat.add_mul]at this |-;omega,by rw[p9 bC.enc hxk];exact hT.but hbt (hO.wX (by omega)),hO.but hbt (hO.wX (by omega))⟩
   case measure=>simp[intOf];omega
  .have:k=n:=by omega
   subst this
   go_wp2_with fail
   go_ret;rw[qN (by rw[hn.out];exact Nat.le_refl _)]at ht;rcases Nat.eq_zero_or_pos k with h0|h0
   .subst h0;have:xs=[]:=List.eq_nil_of_length_eq_zero hn.out;subst this;exact⟨_,_,[],rfl,hb,T1.empty _,Own.nil _ _⟩
   .obtain⟨cur,t',hg⟩:=hrow.own;exact⟨_,_,w.heap.size::bs,rfl,hb,T1.Ez hrow h0 (by unfold maxLen;omega) ht,Own.cons hg (Nat.le_refl _) ho⟩
theorem J2(xs:List Int)(L:Int){A:Option Addr}{c:Nat}{b1}(w:World)(hx:T1 w (.sl xs.length (xs.flatMap dJ)) b1 (.slice A xs.length c))(hn':xs.length<=maxLen)(hL0:0<=L)(hL1:L<=1048576):
  Calls Tryz.prog 98 #[.slice A xs.length c,.int .i64 L] w (yS L (xs.length<=1048576) (Ka (fun _=>0) xs) w):=by
 unfold maxLen at hn'
 by_cases hneg:L-(xs.length:Int)<0
 .generalize xs.length=n at*;clear hx
  go_enter Tryz.func98,Tryz.ntmps98
  go_wp2_with fail
  go_ret;exact⟨Below.refl _ _,_,rfl,.inl rfl⟩
 .have HS:Hid (xs.length<=1048576):=Lib.hid (by omega);obtain⟨n,hn⟩:∃n,xs.length=n:=⟨_,rfl⟩;rw[hn]at hx hneg hn' |-;have Hn:=Lib.hid hn;clear hx hn
  go_enter Tryz.func98,Tryz.ntmps98
  go_wp2_with fail
  go_ret;exact⟨Below.refl _ _,_,rfl,.inr ⟨by omega,by rw[FY,Hn.out],by rw[<-Hn.out];exact HS.out⟩⟩
theorem L8(xs:List aU)(L:Int){A:Option Addr}{c:Nat}{b1}(w:World)(hx:T1 w (.sl xs.length (xs.flatMap aU.enc)) b1 (.slice A xs.length c))(hn':xs.length<=maxLen)(hL0:0<=L)(hL1:L<=1048576):
  Calls Tryz.prog 99 #[.slice A xs.length c,.int .i64 L] w (yS L (xs.length<=1048576/\∀y∈xs,aU.small y) (Ka (fun _=>0) xs) w):=by
 unfold maxLen at hn'
 by_cases hneg:L-(xs.length:Int)<0
 .generalize xs.length=n at*;clear hx
  go_enter Tryz.func99,Tryz.ntmps99
  go_wp2_with fail
  go_ret;exact⟨Below.refl _ _,_,rfl,.inl rfl⟩
 .have HS:Hid (xs.length<=1048576/\∀y∈xs,aU.small y):=Lib.hid ⟨by omega,fun y _=>by unfold aU.small;trivial⟩;obtain⟨n,hn⟩:∃n,xs.length=n:=⟨_,rfl⟩;rw[hn]at hx hneg hn' |-;have Hn:=Lib.hid hn;clear hx hn
  go_enter Tryz.func99,Tryz.ntmps99
  go_wp2_with fail
  go_ret;exact⟨Below.refl _ _,_,rfl,.inr ⟨by omega,by rw[FY,Hn.out],by rw[<-Hn.out];exact HS.out⟩⟩
theorem LZ(x:aH)(L:Int){b us}(w:World)(hx:TN w x.enc b us)(hm3:x.data.length<=maxLen)(hm4:x.aO.length<=maxLen)(hL0:0<=L)(hL1:L<=1048576):
  Calls Tryz.prog 63 #[.agg us.toArray,.int .i64 L] w (yS L x.small x.wt w):=by
 obtain⟨Ax3,cx3,bx3,Ax4,cx4,bx4,rfl,rfl,tx3,lx3,mx3,tx4,lx4,mx4⟩:=aH.us hx;clear lx3 mx3 lx4 mx4 hx;have B0:∀S,Below w.heap.size w (w.alloc S):=fun _=>(Below.refl _ _).alloc (Nat.le_refl _) _
 go_enter Tryz.func63,Tryz.ntmps63
 go_wp2_with fail
 refine(J2 x.data L _ (tx3.below (B0 _)) hm3 (by omega) (by omega)).mono ?_;rintro e w1 ⟨hb1,r1,rfl,h1⟩;have z1:w.heap.size<w1.heap.size:=by have:=hb1.size;(try simp at this);omega
 have B1:Below w.heap.size w w1:=Below.trans (B0 _) (hb1.mono (by first|omega|(simp;done)|(simp;omega)));have u1:=(hb1.block w.heap.size (by simp<;>omega)).trans (heap_alloc_new w _);have q1_0:=cell_of_row _ _ 0 _ _ _ u1;have q1_1:=cell_of_row _ _ 1 _ _ _ u1;have q1_2:=cell_of_row _ _ 2 _ _ _ u1;have q1_3:=cell_of_row _ _ 3 _ _ _ u1;have q1_4:=cell_of_row _ _ 4 _ _ _ u1;simp only[List.getElem?_toArray,List.getElem?_cons_zero,List.getElem?_cons_succ]at q1_0 q1_1 q1_2 q1_3 q1_4;clear hb1;rcases h1 with rfl|⟨a1,c1,s1⟩
 .go_wp2_with fail
  go_ret;exact⟨B1,_,rfl,.inl rfl⟩
 have hd1:decide (r1<0)=false:=by simp;omega
 have S1:=Lib.hid s1;have e1:r1<=L:=by omega
 have C1:=Lib.hid c1;clear s1 c1
 go_wp2_with fail
 refine(L8 x.aO r1 _ (tx4.below B1) hm4 (by omega) (by omega)).mono ?_;rintro e w2 ⟨hb2,r2,rfl,h2⟩;have z2:w.heap.size<w2.heap.size:=by have:=hb2.size;(try simp at this);omega
 have B2:Below w.heap.size w w2:=Below.trans B1 (hb2.mono (by first|omega|(simp;done)|(simp;omega)));have u2:=(hb2.block w.heap.size (by omega)).trans u1;have q2_0:=cell_of_row _ _ 0 _ _ _ u2;have q2_1:=cell_of_row _ _ 1 _ _ _ u2;have q2_2:=cell_of_row _ _ 2 _ _ _ u2;have q2_3:=cell_of_row _ _ 3 _ _ _ u2;have q2_4:=cell_of_row _ _ 4 _ _ _ u2;simp only[List.getElem?_toArray,List.getElem?_cons_zero,List.getElem?_cons_succ]at q2_0 q2_1 q2_2 q2_3 q2_4;clear u1 q1_0 q1_1 q1_2 q1_3 q1_4;clear hb2;rcases h2 with rfl|⟨a2,c2,s2⟩
 .go_wp2_with fail
  go_ret;exact⟨B2,_,rfl,.inl rfl⟩
 have hd2:decide (r2<0)=false:=by simp;omega
 have S2:=Lib.hid s2;have e2:r2<=r1:=by omega
 have C2:=Lib.hid c2;clear s2 c2
 go_wp2_with fail
 go_ret;exact⟨B2,_,rfl,.inr ⟨by omega,by unfold aH.wt;have:=C1.out;have:=C2.out;omega,⟨S1.out,S2.out⟩⟩⟩
theorem JY(xs:List aH)(L:Int){A:Option Addr}{c:Nat}{b1}(w:World)(hx:T1 w (.sl xs.length (xs.flatMap aH.enc)) b1 (.slice A xs.length c))(hn':xs.length<=maxLen)(hL0:0<=L)(hL1:L<=1048576):
  Calls Tryz.prog 36 #[.slice A xs.length c,.int .i64 L] w (yS L (xs.length<=1048576/\∀y∈xs,aH.small y) (Ka aH.wt xs) w):=by
 unfold maxLen at hn'
 by_cases hneg:L-(xs.length:Int)<0
 .generalize xs.length=n at*;clear hx
  go_enter Tryz.func36,Tryz.ntmps36
  go_wp2_with fail
  go_ret;exact⟨Below.refl _ _,_,rfl,.inl rfl⟩
 .have hn0:xs.length<=1048576:=by omega
  obtain⟨n,hn⟩:∃n,xs.length=n:=⟨_,rfl⟩;rw[hn]at hx hneg hn' hn0 |-;have Hn:Hid (xs.length=n):=hn;clear hn hn'
  go_enter Tryz.func36,Tryz.ntmps36
  go_wp2_with fail
  go_loopw [1,5] (fun l i w'=>∃(r:Int) (k:Nat),l=.int .i64 r/\0<=r/\Hid (r=L-(n+((xs.take k).map aH.wt).sum:Nat))/\r<=L/\k<=n/\i=.int .i64 k/\Hid (∀y∈xs.take k,y.small)/\Below w.heap.size w w') (fun _ i _=>n-(intOf i).toNat)
  case atStart=>exact⟨_,0,rfl,by omega,Lib.hid (by simp),by omega,by omega,rfl,Lib.hid (by simp),Below.refl _ _⟩
  case round=>
   obtain⟨r,k,rfl,hr0,hrw,hr1,hk,rfl,ht,hb⟩:=hrel
   by_cases hlt:k<n
   .obtain⟨ba,oa,x,Ax3,cx3,px3,Ax4,cx4,px4,rfl,hba,hxk,x0,x1,x2,x3,x4,tx3,lx3,mx3,tx4,lx4,mx4⟩:=aH.wL (hx.below hb) Hn.out hlt;have nx:=aH.JB (w:=wr) (x:=x) tx3 tx4
    go_wp2_with fail
    refine(LZ x r _ nx (Nat.le_trans lx3 mx3) (Nat.le_trans lx4 mx4) hr0 (by omega)).mono ?_;rintro e w1 ⟨hb1,r1,rfl,h⟩;rcases h with rfl|⟨h0,h1',h2⟩
    .go_wp2_with fail
     go_ret;exact⟨hb.trans (hb1.mono hb.size),_,rfl,.inl rfl⟩
    .have hd:decide (r1<0)=false:=by simp;omega
     have h1:r1<=r:=by omega
     have H1:=Lib.hid h1';clear h1';have H2:=Lib.hid h2;clear h2
     go_wp2_with fail
     go_roundw
     case rel=>exact⟨_,k+1,rfl,h0,Lib.hid (by rw[Qs hxk.out,H1.out,hrw.out];omega),by omega,by omega,by go_num,Lib.hid (yN ht.out hxk.out H2.out),hb.trans (hb1.mono hb.size)⟩
     case measure=>simp[intOf];omega
   .have:k=n:=by omega
    subst this
    go_wp2_with fail
    go_ret;have ht':=ht.out;have hrw':=hrw.out;rw[qN (by rw[Hn.out];exact Nat.le_refl _)]at ht' hrw';rw[<-Hn.out]at hrw';exact⟨hb,_,rfl,.inr ⟨hr0,hrw',⟨hn0,ht'⟩⟩⟩
theorem Iq(x:bC)(L:Int){b us}(w:World)(hx:TN w x.enc b us)(hm0:x.agents.length<=maxLen)(hL0:0<=L)(hL1:L<=1048576):
  Calls Tryz.prog 9 #[.agg us.toArray,.int .i64 L] w (yS L x.small x.wt w):=by
 obtain⟨Ax0,cx0,bx0,rfl,rfl,tx0,lx0,mx0⟩:=bC.us hx;clear lx0 mx0 hx;have B0:∀S,Below w.heap.size w (w.alloc S):=fun _=>(Below.refl _ _).alloc (Nat.le_refl _) _
 go_enter Tryz.func9,Tryz.ntmps9
 go_wp2_with fail
 refine(JY x.agents L _ (tx0.below (B0 _)) hm0 (by omega) (by omega)).mono ?_;rintro e w1 ⟨hb1,r1,rfl,h1⟩;have z1:w.heap.size<w1.heap.size:=by have:=hb1.size;(try simp at this);omega
 have B1:Below w.heap.size w w1:=Below.trans (B0 _) (hb1.mono (by first|omega|(simp;done)|(simp;omega)));have u1:=(hb1.block w.heap.size (by simp<;>omega)).trans (heap_alloc_new w _);have q1_0:=cell_of_row _ _ 0 _ _ _ u1;simp only[List.getElem?_toArray,List.getElem?_cons_zero,List.getElem?_cons_succ]at q1_0;clear hb1;rcases h1 with rfl|⟨a1,c1,s1⟩
 .go_wp2_with fail
  go_ret;exact⟨B1,_,rfl,.inl rfl⟩
 have hd1:decide (r1<0)=false:=by simp;omega
 have S1:=Lib.hid s1;have e1:r1<=L:=by omega
 have C1:=Lib.hid c1;clear s1 c1
 go_wp2_with fail
 go_ret;exact⟨B1,_,rfl,.inr ⟨by omega,by unfold bC.wt;have:=C1.out;omega,S1.out⟩⟩
theorem Oc(xs:List bC)(L:Int){A:Option Addr}{c:Nat}{b1}(w:World)(hx:T1 w (.sl xs.length (xs.flatMap bC.enc)) b1 (.slice A xs.length c))(hn':xs.length<=maxLen)(hL0:0<=L)(hL1:L<=1048576):
  Calls Tryz.prog 8 #[.slice A xs.length c,.int .i64 L] w (yS L (xs.length<=1048576/\∀y∈xs,bC.small y) (Ka bC.wt xs) w):=by
 unfold maxLen at hn'
 by_cases hneg:L-(xs.length:Int)<0
 .generalize xs.length=n at*;clear hx
  go_enter Tryz.func8,Tryz.ntmps8
  go_wp2_with fail
  go_ret;exact⟨Below.refl _ _,_,rfl,.inl rfl⟩
 .have hn0:xs.length<=1048576:=by omega
  obtain⟨n,hn⟩:∃n,xs.length=n:=⟨_,rfl⟩;rw[hn]at hx hneg hn' hn0 |-;have Hn:Hid (xs.length=n):=hn;clear hn hn'
  go_enter Tryz.func8,Tryz.ntmps8
  go_wp2_with fail
  go_loopw [1,5] (fun l i w'=>∃(r:Int) (k:Nat),l=.int .i64 r/\0<=r/\Hid (r=L-(n+((xs.take k).map bC.wt).sum:Nat))/\r<=L/\k<=n/\i=.int .i64 k/\Hid (∀y∈xs.take k,y.small)/\Below w.heap.size w w') (fun _ i _=>n-(intOf i).toNat)
  case atStart=>exact⟨_,0,rfl,by omega,Lib.hid (by simp),by omega,by omega,rfl,Lib.hid (by simp),Below.refl _ _⟩
  case round=>
   obtain⟨r,k,rfl,hr0,hrw,hr1,hk,rfl,ht,hb⟩:=hrel
   by_cases hlt:k<n
   .obtain⟨ba,oa,x,Ax0,cx0,px0,rfl,hba,hxk,x0,tx0,lx0,mx0⟩:=bC.wL (hx.below hb) Hn.out hlt;have nx:=bC.JB (w:=wr) (x:=x) tx0
    go_wp2_with fail
    refine(Iq x r _ nx (Nat.le_trans lx0 mx0) hr0 (by omega)).mono ?_;rintro e w1 ⟨hb1,r1,rfl,h⟩;rcases h with rfl|⟨h0,h1',h2⟩
    .go_wp2_with fail
     go_ret;exact⟨hb.trans (hb1.mono hb.size),_,rfl,.inl rfl⟩
    .have hd:decide (r1<0)=false:=by simp;omega
     have h1:r1<=r:=by omega
     have H1:=Lib.hid h1';clear h1';have H2:=Lib.hid h2;clear h2
     go_wp2_with fail
     go_roundw
     case rel=>exact⟨_,k+1,rfl,h0,Lib.hid (by rw[Qs hxk.out,H1.out,hrw.out];omega),by omega,by omega,by go_num,Lib.hid (yN ht.out hxk.out H2.out),hb.trans (hb1.mono hb.size)⟩
     case measure=>simp[intOf];omega
   .have:k=n:=by omega
    subst this
    go_wp2_with fail
    go_ret;have ht':=ht.out;have hrw':=hrw.out;rw[qN (by rw[Hn.out];exact Nat.le_refl _)]at ht' hrw';rw[<-Hn.out]at hrw';exact⟨hb,_,rfl,.inr ⟨hr0,hrw',⟨hn0,ht'⟩⟩⟩
theorem Cm(x y:aM){b1 b2 us vs}(w:World)(hx:TN w x.enc b1 us)(hy:TN w y.enc b2 vs):
  Calls Tryz.prog 49 #[.agg us.toArray,.agg vs.toArray] w fun e w'=>e=.returned (.bool (yE x y))/\Below w.heap.size w w':=by
 obtain⟨rfl,rfl⟩:=aM.us hx;obtain⟨rfl,rfl⟩:=aM.us hy;have HB:=((Below.refl w.heap.size w).alloc (Nat.le_refl _) (.cells #[.int .i64 x.a,.int .i64 x.b,.int .i64 x.class_,.int .i64 x.first_,.int .i64 x.count] 67)).alloc (by simp) (.cells #[.int .i64 y.a,.int .i64 y.b,.int .i64 y.class_,.int .i64 y.first_,.int .i64 y.count] 67)
 go_enter Tryz.func49,Tryz.ntmps49
 cases hq0:(x.a !=y.a)
 case true=>
  go_wp2_with fail
  go_ret;exact⟨by rw[jY (fun e=>by rw[e]at hq0;simp at hq0)];rfl,HB⟩
 cases hq1:(x.b !=y.b)
 case true=>
  go_wp2_with fail
  go_ret;exact⟨by rw[jY (fun e=>by rw[e]at hq1;simp at hq1)];rfl,HB⟩
 cases hq2:(x.class_ !=y.class_)
 case true=>
  go_wp2_with fail
  go_ret;exact⟨by rw[jY (fun e=>by rw[e]at hq2;simp at hq2)];rfl,HB⟩
 cases hq3:(x.first_ !=y.first_)
 case true=>
  go_wp2_with fail
  go_ret;exact⟨by rw[jY (fun e=>by rw[e]at hq3;simp at hq3)];rfl,HB⟩
 cases hq4:(x.count !=y.count)
 case true=>
  go_wp2_with fail
  go_ret;exact⟨by rw[jY (fun e=>by rw[e]at hq4;simp at hq4)];rfl,HB⟩
 go_wp2_with fail
 go_ret;refine⟨?_,HB⟩;have hxy:x=y:=aM.MZ (show x.a=y.a by simpa using hq0) (show x.b=y.b by simpa using hq1) (show x.class_=y.class_ by simpa using hq2) (show x.first_=y.first_ by simpa using hq3) (show x.count=y.count by simpa using hq4);rw[uZ hxy];rfl
theorem pJ(xs ys:List aM){A B:Option Addr}{c d:Nat}{b1 b2}(w:World)(hx:T1 w (.sl xs.length (xs.flatMap aM.enc)) b1 (.slice A xs.length c))(hy:T1 w (.sl ys.length (ys.flatMap aM.enc)) b2 (.slice B ys.length d))(hn':xs.length<=maxLen)(hm':ys.length<=maxLen):
  Calls Tryz.prog 16 #[.slice A xs.length c,.slice B ys.length d] w fun e w'=>e=.returned (.bool (yE xs ys))/\Below w.heap.size w w':=by
 unfold maxLen at hn' hm'
 by_cases hnm:xs.length=ys.length
 .obtain⟨n,hn0⟩:∃n,ys.length=n:=⟨_,rfl⟩;rw[hn0]at hnm;have hn:Hid (xs.length=n):=hnm;have hm:Hid (ys.length=n):=hn0;rw[hnm]at hx hn' |-;rw[hn0]at hy hm' |-;clear hnm hn0
  go_enter Tryz.func16,Tryz.ntmps16
  go_wp2_with fail
  go_loopw [5] (fun i w'=>∃k:Nat,k<=n/\i=.int .i64 k/\Hid (xs.take k=ys.take k)/\Below w.heap.size w w') (fun i _=>n-(intOf i).toNat)
  case atStart=>exact⟨0,Nat.zero_le _,rfl,rfl,Below.refl _ _⟩
  case round=>
   obtain⟨k,hk,rfl,ht,hb⟩:=hrel
   by_cases hlt:k<n
   .obtain⟨ba,oa,x,rfl,hba,hxk,x0,x1,x2,x3,x4⟩:=aM.wL (hx.below hb) hn.out hlt;obtain⟨bb,ob,y,rfl,hbb,hyk,y0,y1,y2,y3,y4⟩:=aM.wL (hy.below hb) hm.out hlt;have nx:=aM.JB (w:=wr) (x:=x);have ny:=aM.JB (w:=wr) (x:=y);cases hd:yE x y
    case false=>
     have hcall:=fun e:bL wr=>Cm x y _ (nx.below e.h) (ny.below e.h)
     rw[hd]at hcall;have HC:=Lib.hid hcall;clear hcall
     go_wp2_with fail
     have hext:=bL.cell (w:=wr);refine eF (by kernel_rfl) (by kernel_rfl) ?_
     repeat (go_big_quiet_step (exact Calls.mH (HC.out _)))
     refine wpQuiet_nil ?_;rintro _ ⟨e,rfl⟩;have hbe:=hb.trans (e.h.mono hb.size);clear hext
     go_wp2_with fail
     go_ret;exact⟨by rw[jY (La hxk hyk (DT hd))];rfl,hbe⟩
    have hcall:=fun e:bL wr=>Cm x y _ (nx.below e.h) (ny.below e.h)
    rw[hd]at hcall;have HC:=Lib.hid hcall;clear hcall
    go_wp2_with fail
    have hext:=bL.cell (w:=wr);refine eF (by kernel_rfl) (by kernel_rfl) ?_
    repeat (go_big_quiet_step (exact Calls.mH (HC.out _)))
    refine wpQuiet_nil ?_;rintro _ ⟨e,rfl⟩;have hbe:=hb.trans (e.h.mono hb.size);clear hext
    go_wp2_with fail
    exact⟨⟨k+1,by omega,by go_num,nk ht hxk hyk (Cn hd),hbe⟩,by simp[intOf];omega⟩
   .have:k=n:=by omega
    subst this
    go_wp2_with fail
    go_ret;exact⟨by rw[uZ (take_eq_all ht hn hm)];rfl,hb⟩
 .have hne:=jY (Es (xs:=xs) (ys:=ys) rfl rfl hnm);generalize xs.length=n at*;generalize ys.length=m at*
  go_enter Tryz.func16,Tryz.ntmps16
  go_wp2_with fail
  go_ret;exact⟨by rw[hne];rfl,Below.refl _ _⟩
theorem Mg(x:aM)(w:World):
  Calls Tryz.prog 43 #[.agg #[.int .i64 x.a,.int .i64 x.b,.int .i64 x.class_,.int .i64 x.first_,.int .i64 x.count]] w fun e w'=>e=.returned (.agg #[.int .i64 x.a,.int .i64 x.b,.int .i64 x.class_,.int .i64 x.first_,.int .i64 x.count])/\Below w.heap.size w w':=by
 go_enter Tryz.func43,Tryz.ntmps43
 go_wp2
 refine bodyPost_ret (v:=.agg #[.int .i64 x.a,.int .i64 x.b,.int .i64 x.class_,.int .i64 x.first_,.int .i64 x.count]) (by simp[results,Tryz.results43,go_sem]) rfl ⟨rfl,?_⟩;exact(by repeat (first|exact Below.refl _ _|assumption|(refine Below.setCell ?_ (by first|omega|(simp;done)|(simp;omega)) _)|(refine Below.alloc ?_ (by first|omega|(simp;done)|(simp;omega)) _)))
theorem pW(xs:List aM){A:Option Addr}{c:Nat}{b1}(w:World)(hx:T1 w (.sl xs.length (xs.flatMap aM.enc)) b1 (.slice A xs.length c))(hs:xs.length<=1048576/\∀y∈xs,aM.small y):
  Calls Tryz.prog 14 #[.slice A xs.length c] w fun e w'=>∃A' c' bs,e=.returned (.slice A' xs.length c')/\Below w.heap.size w w'/\T1 w' (.sl xs.length (xs.flatMap aM.enc)) bs (.slice A' xs.length c')/\Own w.heap.size w' bs:=by
 have hs1:=Lib.hid hs;have hn':xs.length<=1048576:=hs.1;clear hs;have hn:Hid (xs.length=xs.length):=rfl;generalize hl:xs.length=n at hx hn' hn |-
 replace hn:Hid (xs.length=n):=hl
 clear hl;obtain⟨M,hms,hmk,hsz'⟩:=rE (P:=Tryz.prog) (t:=30) (e:=67) (s:=5) (by kernel_rfl) Tryz.underlying30 hn';have hsz:=hsz';have Hms:=Lib.hid hms;clear hsz' hms
 go_enter Tryz.func14,Tryz.ntmps14
 go_wp2_with fail
 go_loopw [4] (fun i w'=>∃k:Nat,k<=n/\i=.int .i64 k/\Below w.heap.size w w'/\∃bs us,iE w' w.heap.size 67 n 5 us/\us.length=k*5/\TN w' ((xs.take k).flatMap aM.enc) bs us/\Own (w.heap.size+1) w' bs) (fun i _=>n-(intOf i).toNat)
 case atStart=>exact⟨0,by omega,rfl,(Below.refl _ _).alloc (Nat.le_refl _) _,[],[],iE.new _ _ 67 n 5 Hms.out,by simp,by simpa using TN.done,Own.nil _ _⟩
 case round=>
  obtain⟨k,hk,rfl,hb,bs,us,hrow,hul,ht,ho⟩:=hrel
  by_cases hlt:k<n
  .obtain⟨ba,oa,x,rfl,hba,hxk,x0,x1,x2,x3,x4⟩:=aM.wL (hx.below hb) hn.out hlt;have hul':=Lib.hid hul;clear hul
   go_wp2_with fail
   refine(Mg x _).mono ?_;rintro e w1 ⟨rfl,hb1⟩;have hT:=TN.append.2 ⟨bs,[],us,_,rfl,rfl,ht.below hb1,aM.JB (w:=w1) (x:=x)⟩
   go_wp2_with (refine iJ rfl 67 (.tmp 21) (.tmp 20) rfl w.heap.size 67 n 5 k us (.agg #[.int .i64 x.a,.int .i64 x.b,.int .i64 x.class_,.int .i64 x.first_,.int .i64 x.count]) rfl rfl (hrow.below hb1) hul'.out hlt hsz.h rfl rfl ?_;intro w2 hr2 hb2 hs2 ho2)
   have hbt:But w.heap.size w1 w2:=⟨hb2.os,hb2.tape,hb2.output,hb2.size,fun j _ hj=>ho2 j hj⟩
   go_roundw
   case rel=>exact⟨k+1,by omega,by go_num,(hb.trans (hb1.mono hb.size)).trans hb2,bs++[],_,hr2,by simp[hul'.out,Value.cells,Nat.add_mul],by rw[p9 aM.enc hxk];exact hT.but hbt (by simpa using ho.wX (by omega)),by simpa using(ho.below hb1).but hbt (ho.wX (by omega))⟩
   case measure=>simp[intOf];omega
  .have:k=n:=by omega
   subst this
   go_wp2_with fail
   go_ret;rw[qN (by rw[hn.out];exact Nat.le_refl _)]at ht;rcases Nat.eq_zero_or_pos k with h0|h0
   .subst h0;have:xs=[]:=List.eq_nil_of_length_eq_zero hn.out;subst this;exact⟨_,_,[],rfl,hb,T1.empty _,Own.nil _ _⟩
   .obtain⟨cur,t',hg⟩:=hrow.own;exact⟨_,_,w.heap.size::bs,rfl,hb,T1.Ez hrow h0 (by unfold maxLen;omega) ht,Own.cons hg (Nat.le_refl _) ho⟩
theorem JZ(xs:List aM)(L:Int){A:Option Addr}{c:Nat}{b1}(w:World)(hx:T1 w (.sl xs.length (xs.flatMap aM.enc)) b1 (.slice A xs.length c))(hn':xs.length<=maxLen)(hL0:0<=L)(hL1:L<=1048576):
  Calls Tryz.prog 10 #[.slice A xs.length c,.int .i64 L] w (yS L (xs.length<=1048576/\∀y∈xs,aM.small y) (Ka (fun _=>0) xs) w):=by
 unfold maxLen at hn'
 by_cases hneg:L-(xs.length:Int)<0
 .generalize xs.length=n at*;clear hx
  go_enter Tryz.func10,Tryz.ntmps10
  go_wp2_with fail
  go_ret;exact⟨Below.refl _ _,_,rfl,.inl rfl⟩
 .have HS:Hid (xs.length<=1048576/\∀y∈xs,aM.small y):=Lib.hid ⟨by omega,fun y _=>by unfold aM.small;trivial⟩;obtain⟨n,hn⟩:∃n,xs.length=n:=⟨_,rfl⟩;rw[hn]at hx hneg hn' |-;have Hn:=Lib.hid hn;clear hx hn
  go_enter Tryz.func10,Tryz.ntmps10
  go_wp2_with fail
  go_ret;exact⟨Below.refl _ _,_,rfl,.inr ⟨by omega,by rw[FY,Hn.out],by rw[<-Hn.out];exact HS.out⟩⟩
end Go.Proofs.YtbdimbjclhmeoaaGreat
