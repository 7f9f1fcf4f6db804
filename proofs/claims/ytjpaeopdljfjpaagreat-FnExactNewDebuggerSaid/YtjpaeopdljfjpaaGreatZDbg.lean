
/- The helpers of the statements for these types: equal, copied, counted. Printed by gen_fam.py. -/
import Derived.Test.YtjpaeopdljfjpaaGreatShort
import Derived.Test.YtjpaeopdljfjpaaGreatProg
import Derived.Test.YtjpaeopdljfjpaaGreatValid
set_option maxHeartbeats 4000000
set_option linter.unusedSimpArgs false
set_option linter.unusedVariables false
namespace Go.Proofs.YtjpaeopdljfjpaaGreat
open Go Go.RowKit Go.Proofs Go.Tr
theorem zh(x y:aC){b1 b2 us vs}(w:World)(hx:TN w x.enc b1 us)(hy:TN w y.enc b2 vs):
  Calls Tryz.prog 94 #[.agg us.toArray,.agg vs.toArray] w fun e w'=>e=.returned (.bool (kX x y))∧Below w.heap.size w w':=by
 obtain⟨rfl,rfl⟩:=aC.us hx;obtain⟨rfl,rfl⟩:=aC.us hy;have HB:=((Below.refl w.heap.size w).alloc (Nat.le_refl _) (.cells #[.int .i64 x.agent,.int .i64 x.slot] 92)).alloc (by simp) (.cells #[.int .i64 y.agent,.int .i64 y.slot] 92)
 go_enter Tryz.func94,Tryz.ntmps94
 cases hq0:(x.agent !=y.agent)
 case true=>
  go_wp2_with fail
  go_ret;exact⟨by rw[dS (fun e=>by rw[e]at hq0;simp at hq0)];rfl,HB⟩
 cases hq1:(x.slot !=y.slot)
 case true=>
  go_wp2_with fail
  go_ret;exact⟨by rw[dS (fun e=>by rw[e]at hq1;simp at hq1)];rfl,HB⟩
 go_wp2_with fail
 go_ret;refine⟨?_,HB⟩;have hxy:x=y:=aC.vH (show x.agent=y.agent by simpa using hq0) (show x.slot=y.slot by simpa using hq1);rw[jR hxy];rfl
theorem oP(xs ys:List Int){A B:Option Addr}{c d:Nat}{b1 b2}(w:World)(hx:T1 w (.sl xs.length (xs.flatMap aT)) b1 (.slice A xs.length c))(hy:T1 w (.sl ys.length (ys.flatMap aT)) b2 (.slice B ys.length d))(hn':xs.length≤maxLen)(hm':ys.length≤maxLen):
  Calls Tryz.prog 14 #[.slice A xs.length c,.slice B ys.length d] w fun e w'=>e=.returned (.bool (kX xs ys))∧Below w.heap.size w w':=by
 unfold maxLen at hn' hm'
 by_cases hnm:xs.length=ys.length
 ·obtain⟨n,hn0⟩:∃n,ys.length=n:=⟨_,rfl⟩;rw[hn0]at hnm;have hn:Hid (xs.length=n):=hnm;have hm:Hid (ys.length=n):=hn0;rw[hnm]at hx hn' ⊢;rw[hn0]at hy hm' ⊢;clear hnm hn0
  go_enter Tryz.func14,Tryz.ntmps14
  go_wp2_with fail
  go_loopw [5] (fun i w'=>∃k:Nat,k≤n∧i=.int .i64 k∧Hid (xs.take k=ys.take k)∧Below w.heap.size w w') (fun i _=>n-(intOf i).toNat)
  case atStart=>exact⟨0,Nat.zero_le _,rfl,rfl,Below.refl _ _⟩
  case round=>
   obtain⟨k,hk,rfl,ht,hb⟩:=hrel
   by_cases hlt:k<n
   ·obtain⟨ba,oa,x,rfl,_,hba,hxk,x0⟩:=Cy (hx.below hb) hn.out hlt;obtain⟨bb,ob,y,rfl,_,hbb,hyk,y0⟩:=Cy (hy.below hb) hm.out hlt;cases hd:(x !=y)
    case true=>
     go_wp2_with fail
     go_quiet (fail)
     go_wp2_with fail
     go_ret;exact⟨by rw[dS (zK hxk hyk (by rintro rfl;simp at hd))];rfl,hb.drewN _⟩
    go_wp2_with fail
    go_quiet (fail)
    go_wp2_with fail
    exact⟨⟨k+1,by omega,by go_num,iD ht hxk hyk (by simpa using hd),hb.drewN _⟩,by simp[intOf];omega⟩
   ·have:k=n:=by omega
    subst this
    go_wp2_with fail
    go_ret;exact⟨by rw[jR (take_eq_all ht hn hm)];rfl,hb⟩
 ·have hne:=dS (uE (xs:=xs) (ys:=ys) rfl rfl hnm);generalize xs.length=n at*;generalize ys.length=m at*
  go_enter Tryz.func14,Tryz.ntmps14
  go_wp2_with fail
  go_ret;exact⟨by rw[hne];rfl,Below.refl _ _⟩
theorem DX(xs ys:List aC){A B:Option Addr}{c d:Nat}{b1 b2}(w:World)(hx:T1 w (.sl xs.length (xs.flatMap aC.enc)) b1 (.slice A xs.length c))(hy:T1 w (.sl ys.length (ys.flatMap aC.enc)) b2 (.slice B ys.length d))(hn':xs.length≤maxLen)(hm':ys.length≤maxLen):
  Calls Tryz.prog 83 #[.slice A xs.length c,.slice B ys.length d] w fun e w'=>e=.returned (.bool (kX xs ys))∧Below w.heap.size w w':=by
 unfold maxLen at hn' hm'
 by_cases hnm:xs.length=ys.length
 ·obtain⟨n,hn0⟩:∃n,ys.length=n:=⟨_,rfl⟩;rw[hn0]at hnm;have hn:Hid (xs.length=n):=hnm;have hm:Hid (ys.length=n):=hn0;rw[hnm]at hx hn' ⊢;rw[hn0]at hy hm' ⊢;clear hnm hn0
  go_enter Tryz.func83,Tryz.ntmps83
  go_wp2_with fail
  go_loopw [5] (fun i w'=>∃k:Nat,k≤n∧i=.int .i64 k∧Hid (xs.take k=ys.take k)∧Below w.heap.size w w') (fun i _=>n-(intOf i).toNat)
  case atStart=>exact⟨0,Nat.zero_le _,rfl,rfl,Below.refl _ _⟩
  case round=>
   obtain⟨k,hk,rfl,ht,hb⟩:=hrel
   by_cases hlt:k<n
   ·obtain⟨ba,oa,x,rfl,hba,hxk,x0,x1⟩:=aC.lW (hx.below hb) hn.out hlt;obtain⟨bb,ob,y,rfl,hbb,hyk,y0,y1⟩:=aC.lW (hy.below hb) hm.out hlt;have nx:=aC.oZ (w:=wr) (x:=x);have ny:=aC.oZ (w:=wr) (x:=y);cases hd:kX x y
    case false=>
     have hcall:=fun e:aK wr=>zh x y _ (nx.below e.h) (ny.below e.h)
     rw[hd]at hcall;have HC:=Lib.hid hcall;clear hcall
     go_wp2_with fail
     have hext:=aK.cell (w:=wr);refine bB (by kernel_rfl) (by kernel_rfl) ?_
     repeat (go_big_quiet_step (exact Calls.gH (HC.out _)))
     refine wpQuiet_nil ?_;rintro _ ⟨e,rfl⟩;have hbe:=hb.trans (e.h.mono hb.size);clear hext
     go_wp2_with fail
     go_ret;exact⟨by rw[dS (zK hxk hyk (uw hd))];rfl,hbe⟩
    have hcall:=fun e:aK wr=>zh x y _ (nx.below e.h) (ny.below e.h)
    rw[hd]at hcall;have HC:=Lib.hid hcall;clear hcall
    go_wp2_with fail
    have hext:=aK.cell (w:=wr);refine bB (by kernel_rfl) (by kernel_rfl) ?_
    repeat (go_big_quiet_step (exact Calls.gH (HC.out _)))
    refine wpQuiet_nil ?_;rintro _ ⟨e,rfl⟩;have hbe:=hb.trans (e.h.mono hb.size);clear hext
    go_wp2_with fail
    exact⟨⟨k+1,by omega,by go_num,iD ht hxk hyk (kG hd),hbe⟩,by simp[intOf];omega⟩
   ·have:k=n:=by omega
    subst this
    go_wp2_with fail
    go_ret;exact⟨by rw[jR (take_eq_all ht hn hm)];rfl,hb⟩
 ·have hne:=dS (uE (xs:=xs) (ys:=ys) rfl rfl hnm);generalize xs.length=n at*;generalize ys.length=m at*
  go_enter Tryz.func83,Tryz.ntmps83
  go_wp2_with fail
  go_ret;exact⟨by rw[hne];rfl,Below.refl _ _⟩
theorem xJ(x y:ay){b1 b2 us vs}(w:World)(hx:TN w x.enc b1 us)(hy:TN w y.enc b2 vs):
  Calls Tryz.prog 69 #[.agg us.toArray,.agg vs.toArray] w fun e w'=>e=.returned (.bool (kX x y))∧Below w.heap.size w w':=by
 obtain⟨Ax3,cx3,bx3,Ax4,cx4,bx4,rfl,rfl,tx3,lx3,mx3,tx4,lx4,mx4⟩:=ay.us hx;obtain⟨Ay3,cy3,by3,Ay4,cy4,by4,rfl,rfl,ty3,ly3,my3,ty4,ly4,my4⟩:=ay.us hy;have HB:=((Below.refl w.heap.size w).alloc (Nat.le_refl _) (.cells #[.int .i64 x.kind,.int .i64 x.level,.int .i64 x.value,.slice Ax3 x.data.length cx3,.slice Ax4 x.aD.length cx4] 86)).alloc (by simp) (.cells #[.int .i64 y.kind,.int .i64 y.level,.int .i64 y.value,.slice Ay3 y.data.length cy3,.slice Ay4 y.aD.length cy4] 86)
 go_enter Tryz.func69,Tryz.ntmps69
 cases hq0:(x.kind !=y.kind)
 case true=>
  go_wp2_with fail
  go_ret;exact⟨by rw[dS (fun e=>by rw[e]at hq0;simp at hq0)];rfl,HB⟩
 cases hq1:(x.level !=y.level)
 case true=>
  go_wp2_with fail
  go_ret;exact⟨by rw[dS (fun e=>by rw[e]at hq1;simp at hq1)];rfl,HB⟩
 cases hq2:(x.value !=y.value)
 case true=>
  go_wp2_with fail
  go_ret;exact⟨by rw[dS (fun e=>by rw[e]at hq2;simp at hq2)];rfl,HB⟩
 have sx3:=tx3.below HB;have sy3:=ty3.below HB
 go_wp2_with fail
 refine(oP x.data y.data _ sx3 sy3 (Nat.le_trans lx3 mx3) (Nat.le_trans ly3 my3)).mono ?_;rintro e w1 ⟨rfl,hb1⟩;have B1:=HB.trans (hb1.mono HB.size);obtain⟨hc1,hf1⟩:=qo hb1;have hz1:w.heap.size+1<w1.heap.size:=by have:=hb1.size;simp at this;omega
 have ha1:=fun o=>hc1 w.heap.size o (by first|(simp;done)|(simp;omega))
 have he1:=fun o=>hc1 (w.heap.size+1) o (by first|(simp;done)|(simp;omega))
 have hg1:=fun o=>hf1 w.heap.size o (by first|(simp;done)|(simp;omega))
 have hi1:=fun o=>hf1 (w.heap.size+1) o (by first|(simp;done)|(simp;omega))
 clear hc1 hf1;clear hb1;cases hq3:kX x.data y.data
 case false=>
  go_wp2_with fail
  go_ret;exact⟨by rw[dS (fun e=>by rw[e]at hq3;exact absurd hq3 (by simp[eT]))];rfl,B1⟩
 have sx4:=tx4.below B1;have sy4:=ty4.below B1
 go_wp2_with fail
 refine(DX x.aD y.aD _ sx4 sy4 (Nat.le_trans lx4 mx4) (Nat.le_trans ly4 my4)).mono ?_;rintro e w2 ⟨rfl,hb2⟩;have B2:=B1.trans (hb2.mono B1.size);obtain⟨hc2,hf2⟩:=qo hb2;have hz2:w.heap.size+1<w2.heap.size:=by have:=hb2.size;omega
 have ha2:=fun o=>(hc2 w.heap.size o (by omega)).trans (ha1 o)
 have he2:=fun o=>(hc2 (w.heap.size+1) o (by omega)).trans (he1 o)
 have hg2:=fun o=>(hf2 w.heap.size o (by omega)).trans (hg1 o)
 have hi2:=fun o=>(hf2 (w.heap.size+1) o (by omega)).trans (hi1 o)
 clear hc2 hf2;clear hb2;cases hq4:kX x.aD y.aD
 case false=>
  go_wp2_with fail
  go_ret;exact⟨by rw[dS (fun e=>by rw[e]at hq4;exact absurd hq4 (by simp[eT]))];rfl,B2⟩
 go_wp2_with fail
 go_ret;refine⟨?_,B2⟩;have hxy:x=y:=ay.vH (show x.kind=y.kind by simpa using hq0) (show x.level=y.level by simpa using hq1) (show x.value=y.value by simpa using hq2) (kG hq3) (kG hq4);rw[jR hxy];rfl
theorem BZ(xs ys:List ay){A B:Option Addr}{c d:Nat}{b1 b2}(w:World)(hx:T1 w (.sl xs.length (xs.flatMap ay.enc)) b1 (.slice A xs.length c))(hy:T1 w (.sl ys.length (ys.flatMap ay.enc)) b2 (.slice B ys.length d))(hn':xs.length≤maxLen)(hm':ys.length≤maxLen):
  Calls Tryz.prog 35 #[.slice A xs.length c,.slice B ys.length d] w fun e w'=>e=.returned (.bool (kX xs ys))∧Below w.heap.size w w':=by
 unfold maxLen at hn' hm'
 by_cases hnm:xs.length=ys.length
 ·obtain⟨n,hn0⟩:∃n,ys.length=n:=⟨_,rfl⟩;rw[hn0]at hnm;have hn:Hid (xs.length=n):=hnm;have hm:Hid (ys.length=n):=hn0;rw[hnm]at hx hn' ⊢;rw[hn0]at hy hm' ⊢;clear hnm hn0
  go_enter Tryz.func35,Tryz.ntmps35
  go_wp2_with fail
  go_loopw [5] (fun i w'=>∃k:Nat,k≤n∧i=.int .i64 k∧Hid (xs.take k=ys.take k)∧Below w.heap.size w w') (fun i _=>n-(intOf i).toNat)
  case atStart=>exact⟨0,Nat.zero_le _,rfl,rfl,Below.refl _ _⟩
  case round=>
   obtain⟨k,hk,rfl,ht,hb⟩:=hrel
   by_cases hlt:k<n
   ·obtain⟨ba,oa,x,Ax3,cx3,px3,Ax4,cx4,px4,rfl,hba,hxk,x0,x1,x2,x3,x4,tx3,lx3,mx3,tx4,lx4,mx4⟩:=ay.lW (hx.below hb) hn.out hlt;obtain⟨bb,ob,y,Ay3,cy3,py3,Ay4,cy4,py4,rfl,hbb,hyk,y0,y1,y2,y3,y4,ty3,ly3,my3,ty4,ly4,my4⟩:=ay.lW (hy.below hb) hm.out hlt;have nx:=ay.oZ (w:=wr) (x:=x) tx3 tx4;have ny:=ay.oZ (w:=wr) (x:=y) ty3 ty4;cases hd:kX x y
    case false=>
     have hcall:=fun e:aK wr=>xJ x y _ (nx.below e.h) (ny.below e.h)
     rw[hd]at hcall;have HC:=Lib.hid hcall;clear hcall
     go_wp2_with fail
     have hext:=aK.cell (w:=wr);refine bB (by kernel_rfl) (by kernel_rfl) ?_
     repeat (go_big_quiet_step (exact Calls.gH (HC.out _)))
     refine wpQuiet_nil ?_;rintro _ ⟨e,rfl⟩;have hbe:=hb.trans (e.h.mono hb.size);clear hext
     go_wp2_with fail
     go_ret;exact⟨by rw[dS (zK hxk hyk (uw hd))];rfl,hbe⟩
    have hcall:=fun e:aK wr=>xJ x y _ (nx.below e.h) (ny.below e.h)
    rw[hd]at hcall;have HC:=Lib.hid hcall;clear hcall
    go_wp2_with fail
    have hext:=aK.cell (w:=wr);refine bB (by kernel_rfl) (by kernel_rfl) ?_
    repeat (go_big_quiet_step (exact Calls.gH (HC.out _)))
    refine wpQuiet_nil ?_;rintro _ ⟨e,rfl⟩;have hbe:=hb.trans (e.h.mono hb.size);clear hext
    go_wp2_with fail
    exact⟨⟨k+1,by omega,by go_num,iD ht hxk hyk (kG hd),hbe⟩,by simp[intOf];omega⟩
   ·have:k=n:=by omega
    subst this
    go_wp2_with fail
    go_ret;exact⟨by rw[jR (take_eq_all ht hn hm)];rfl,hb⟩
 ·have hne:=dS (uE (xs:=xs) (ys:=ys) rfl rfl hnm);generalize xs.length=n at*;generalize ys.length=m at*
  go_enter Tryz.func35,Tryz.ntmps35
  go_wp2_with fail
  go_ret;exact⟨by rw[hne];rfl,Below.refl _ _⟩
theorem nQ(x y:aG){b1 b2 us vs}(w:World)(hx:TN w x.enc b1 us)(hy:TN w y.enc b2 vs):
  Calls Tryz.prog 13 #[.agg us.toArray,.agg vs.toArray] w fun e w'=>e=.returned (.bool (kX x y))∧Below w.heap.size w w':=by
 obtain⟨Ax0,cx0,bx0,rfl,rfl,tx0,lx0,mx0⟩:=aG.us hx;obtain⟨Ay0,cy0,by0,rfl,rfl,ty0,ly0,my0⟩:=aG.us hy;have HB:=((Below.refl w.heap.size w).alloc (Nat.le_refl _) (.cells #[.slice Ax0 x.agents.length cx0] 32)).alloc (by simp) (.cells #[.slice Ay0 y.agents.length cy0] 32)
 go_enter Tryz.func13,Tryz.ntmps13
 have sx0:=tx0.below HB;have sy0:=ty0.below HB
 go_wp2_with fail
 refine(BZ x.agents y.agents _ sx0 sy0 (Nat.le_trans lx0 mx0) (Nat.le_trans ly0 my0)).mono ?_;rintro e w1 ⟨rfl,hb1⟩;have B1:=HB.trans (hb1.mono HB.size);obtain⟨hc1,hf1⟩:=qo hb1;have hz1:w.heap.size+1<w1.heap.size:=by have:=hb1.size;simp at this;omega
 have ha1:=fun o=>hc1 w.heap.size o (by first|(simp;done)|(simp;omega))
 have he1:=fun o=>hc1 (w.heap.size+1) o (by first|(simp;done)|(simp;omega))
 have hg1:=fun o=>hf1 w.heap.size o (by first|(simp;done)|(simp;omega))
 have hi1:=fun o=>hf1 (w.heap.size+1) o (by first|(simp;done)|(simp;omega))
 clear hc1 hf1;clear hb1;cases hq0:kX x.agents y.agents
 case false=>
  go_wp2_with fail
  go_ret;exact⟨by rw[dS (fun e=>by rw[e]at hq0;exact absurd hq0 (by simp[eT]))];rfl,B1⟩
 go_wp2_with fail
 go_ret;refine⟨?_,B1⟩;have hxy:x=y:=aG.vH (kG hq0);rw[jR hxy];rfl
theorem vE(x y:aB){b1 b2 us vs}(w:World)(hx:TN w x.enc b1 us)(hy:TN w y.enc b2 vs):
  Calls Tryz.prog 66 #[.agg us.toArray,.agg vs.toArray] w fun e w'=>e=.returned (.bool (kX x y))∧Below w.heap.size w w':=by
 obtain⟨rfl,rfl⟩:=aB.us hx;obtain⟨rfl,rfl⟩:=aB.us hy;have HB:=((Below.refl w.heap.size w).alloc (Nat.le_refl _) (.cells #[.int .i64 x.step,.int .i64 x.def_,.int .i64 x.source] 57)).alloc (by simp) (.cells #[.int .i64 y.step,.int .i64 y.def_,.int .i64 y.source] 57)
 go_enter Tryz.func66,Tryz.ntmps66
 cases hq0:(x.step !=y.step)
 case true=>
  go_wp2_with fail
  go_ret;exact⟨by rw[dS (fun e=>by rw[e]at hq0;simp at hq0)];rfl,HB⟩
 cases hq1:(x.def_ !=y.def_)
 case true=>
  go_wp2_with fail
  go_ret;exact⟨by rw[dS (fun e=>by rw[e]at hq1;simp at hq1)];rfl,HB⟩
 cases hq2:(x.source !=y.source)
 case true=>
  go_wp2_with fail
  go_ret;exact⟨by rw[dS (fun e=>by rw[e]at hq2;simp at hq2)];rfl,HB⟩
 go_wp2_with fail
 go_ret;refine⟨?_,HB⟩;have hxy:x=y:=aB.vH (show x.step=y.step by simpa using hq0) (show x.def_=y.def_ by simpa using hq1) (show x.source=y.source by simpa using hq2);rw[jR hxy];rfl
theorem xK(x y:aH){b1 b2 us vs}(w:World)(hx:TN w x.enc b1 us)(hy:TN w y.enc b2 vs):
  Calls Tryz.prog 67 #[.agg us.toArray,.agg vs.toArray] w fun e w'=>e=.returned (.bool (kX x y))∧Below w.heap.size w w':=by
 obtain⟨rfl,rfl⟩:=aH.us hx;obtain⟨rfl,rfl⟩:=aH.us hy;have HB:=((Below.refl w.heap.size w).alloc (Nat.le_refl _) (.cells #[.int .i64 x.kind,.int .i64 x.value] 104)).alloc (by simp) (.cells #[.int .i64 y.kind,.int .i64 y.value] 104)
 go_enter Tryz.func67,Tryz.ntmps67
 cases hq0:(x.kind !=y.kind)
 case true=>
  go_wp2_with fail
  go_ret;exact⟨by rw[dS (fun e=>by rw[e]at hq0;simp at hq0)];rfl,HB⟩
 cases hq1:(x.value !=y.value)
 case true=>
  go_wp2_with fail
  go_ret;exact⟨by rw[dS (fun e=>by rw[e]at hq1;simp at hq1)];rfl,HB⟩
 go_wp2_with fail
 go_ret;refine⟨?_,HB⟩;have hxy:x=y:=aH.vH (show x.kind=y.kind by simpa using hq0) (show x.value=y.value by simpa using hq1);rw[jR hxy];rfl
theorem tF(xs ys:List aB){A B:Option Addr}{c d:Nat}{b1 b2}(w:World)(hx:T1 w (.sl xs.length (xs.flatMap aB.enc)) b1 (.slice A xs.length c))(hy:T1 w (.sl ys.length (ys.flatMap aB.enc)) b2 (.slice B ys.length d))(hn':xs.length≤maxLen)(hm':ys.length≤maxLen):
  Calls Tryz.prog 32 #[.slice A xs.length c,.slice B ys.length d] w fun e w'=>e=.returned (.bool (kX xs ys))∧Below w.heap.size w w':=by
 unfold maxLen at hn' hm'
 by_cases hnm:xs.length=ys.length
 ·obtain⟨n,hn0⟩:∃n,ys.length=n:=⟨_,rfl⟩;rw[hn0]at hnm;have hn:Hid (xs.length=n):=hnm;have hm:Hid (ys.length=n):=hn0;rw[hnm]at hx hn' ⊢;rw[hn0]at hy hm' ⊢;clear hnm hn0
  go_enter Tryz.func32,Tryz.ntmps32
  go_wp2_with fail
  go_loopw [5] (fun i w'=>∃k:Nat,k≤n∧i=.int .i64 k∧Hid (xs.take k=ys.take k)∧Below w.heap.size w w') (fun i _=>n-(intOf i).toNat)
  case atStart=>exact⟨0,Nat.zero_le _,rfl,rfl,Below.refl _ _⟩
  case round=>
   obtain⟨k,hk,rfl,ht,hb⟩:=hrel
   by_cases hlt:k<n
   ·obtain⟨ba,oa,x,rfl,hba,hxk,x0,x1,x2⟩:=aB.lW (hx.below hb) hn.out hlt;obtain⟨bb,ob,y,rfl,hbb,hyk,y0,y1,y2⟩:=aB.lW (hy.below hb) hm.out hlt;have nx:=aB.oZ (w:=wr) (x:=x);have ny:=aB.oZ (w:=wr) (x:=y);cases hd:kX x y
    case false=>
     have hcall:=fun e:aK wr=>vE x y _ (nx.below e.h) (ny.below e.h)
     rw[hd]at hcall;have HC:=Lib.hid hcall;clear hcall
     go_wp2_with fail
     have hext:=aK.cell (w:=wr);refine bB (by kernel_rfl) (by kernel_rfl) ?_
     repeat (go_big_quiet_step (exact Calls.gH (HC.out _)))
     refine wpQuiet_nil ?_;rintro _ ⟨e,rfl⟩;have hbe:=hb.trans (e.h.mono hb.size);clear hext
     go_wp2_with fail
     go_ret;exact⟨by rw[dS (zK hxk hyk (uw hd))];rfl,hbe⟩
    have hcall:=fun e:aK wr=>vE x y _ (nx.below e.h) (ny.below e.h)
    rw[hd]at hcall;have HC:=Lib.hid hcall;clear hcall
    go_wp2_with fail
    have hext:=aK.cell (w:=wr);refine bB (by kernel_rfl) (by kernel_rfl) ?_
    repeat (go_big_quiet_step (exact Calls.gH (HC.out _)))
    refine wpQuiet_nil ?_;rintro _ ⟨e,rfl⟩;have hbe:=hb.trans (e.h.mono hb.size);clear hext
    go_wp2_with fail
    exact⟨⟨k+1,by omega,by go_num,iD ht hxk hyk (kG hd),hbe⟩,by simp[intOf];omega⟩
   ·have:k=n:=by omega
    subst this
    go_wp2_with fail
    go_ret;exact⟨by rw[jR (take_eq_all ht hn hm)];rfl,hb⟩
 ·have hne:=dS (uE (xs:=xs) (ys:=ys) rfl rfl hnm);generalize xs.length=n at*;generalize ys.length=m at*
  go_enter Tryz.func32,Tryz.ntmps32
  go_wp2_with fail
  go_ret;exact⟨by rw[hne];rfl,Below.refl _ _⟩
theorem nO(x y:aA){b1 b2 us vs}(w:World)(hx:TN w x.enc b1 us)(hy:TN w y.enc b2 vs):
  Calls Tryz.prog 68 #[.agg us.toArray,.agg vs.toArray] w fun e w'=>e=.returned (.bool (kX x y))∧Below w.heap.size w w':=by
 obtain⟨Ax1,cx1,bx1,Ax2,cx2,bx2,rfl,rfl,tx1,lx1,mx1,tx2,lx2,mx2⟩:=aA.us hx;obtain⟨Ay1,cy1,by1,Ay2,cy2,by2,rfl,rfl,ty1,ly1,my1,ty2,ly2,my2⟩:=aA.us hy;have HB:=((Below.refl w.heap.size w).alloc (Nat.le_refl _) (.cells #[.int .i64 x.at_,.slice Ax1 x.net.agents.length cx1,.slice Ax2 x.origins.length cx2] 59)).alloc (by simp) (.cells #[.int .i64 y.at_,.slice Ay1 y.net.agents.length cy1,.slice Ay2 y.origins.length cy2] 59)
 go_enter Tryz.func68,Tryz.ntmps68
 cases hq0:(x.at_ !=y.at_)
 case true=>
  go_wp2_with fail
  go_ret;exact⟨by rw[dS (fun e=>by rw[e]at hq0;simp at hq0)];rfl,HB⟩
 have nx1:=aG.oZ (x:=x.net) (tx1.below HB);have ny1:=aG.oZ (x:=y.net) (ty1.below HB)
 go_wp2_with fail
 refine(nQ x.net y.net _ nx1 ny1).mono ?_;rintro e w1 ⟨rfl,hb1⟩;have B1:=HB.trans (hb1.mono HB.size);obtain⟨hc1,hf1⟩:=qo hb1;have hz1:w.heap.size+1<w1.heap.size:=by have:=hb1.size;simp at this;omega
 have ha1:=fun o=>hc1 w.heap.size o (by first|(simp;done)|(simp;omega))
 have he1:=fun o=>hc1 (w.heap.size+1) o (by first|(simp;done)|(simp;omega))
 have hg1:=fun o=>hf1 w.heap.size o (by first|(simp;done)|(simp;omega))
 have hi1:=fun o=>hf1 (w.heap.size+1) o (by first|(simp;done)|(simp;omega))
 clear hc1 hf1;clear hb1;cases hq1:kX x.net y.net
 case false=>
  go_wp2_with fail
  go_ret;exact⟨by rw[dS (fun e=>by rw[e]at hq1;exact absurd hq1 (by simp[eT]))];rfl,B1⟩
 have sx2:=tx2.below B1;have sy2:=ty2.below B1
 go_wp2_with fail
 refine(tF x.origins y.origins _ sx2 sy2 (Nat.le_trans lx2 mx2) (Nat.le_trans ly2 my2)).mono ?_;rintro e w2 ⟨rfl,hb2⟩;have B2:=B1.trans (hb2.mono B1.size);obtain⟨hc2,hf2⟩:=qo hb2;have hz2:w.heap.size+1<w2.heap.size:=by have:=hb2.size;omega
 have ha2:=fun o=>(hc2 w.heap.size o (by omega)).trans (ha1 o)
 have he2:=fun o=>(hc2 (w.heap.size+1) o (by omega)).trans (he1 o)
 have hg2:=fun o=>(hf2 w.heap.size o (by omega)).trans (hg1 o)
 have hi2:=fun o=>(hf2 (w.heap.size+1) o (by omega)).trans (hi1 o)
 clear hc2 hf2;clear hb2;cases hq2:kX x.origins y.origins
 case false=>
  go_wp2_with fail
  go_ret;exact⟨by rw[dS (fun e=>by rw[e]at hq2;exact absurd hq2 (by simp[eT]))];rfl,B2⟩
 go_wp2_with fail
 go_ret;refine⟨?_,B2⟩;have hxy:x=y:=aA.vH (show x.at_=y.at_ by simpa using hq0) (kG hq1) (kG hq2);rw[jR hxy];rfl
theorem zf(xs ys:List aG){A B:Option Addr}{c d:Nat}{b1 b2}(w:World)(hx:T1 w (.sl xs.length (xs.flatMap aG.enc)) b1 (.slice A xs.length c))(hy:T1 w (.sl ys.length (ys.flatMap aG.enc)) b2 (.slice B ys.length d))(hn':xs.length≤maxLen)(hm':ys.length≤maxLen):
  Calls Tryz.prog 12 #[.slice A xs.length c,.slice B ys.length d] w fun e w'=>e=.returned (.bool (kX xs ys))∧Below w.heap.size w w':=by
 unfold maxLen at hn' hm'
 by_cases hnm:xs.length=ys.length
 ·obtain⟨n,hn0⟩:∃n,ys.length=n:=⟨_,rfl⟩;rw[hn0]at hnm;have hn:Hid (xs.length=n):=hnm;have hm:Hid (ys.length=n):=hn0;rw[hnm]at hx hn' ⊢;rw[hn0]at hy hm' ⊢;clear hnm hn0
  go_enter Tryz.func12,Tryz.ntmps12
  go_wp2_with fail
  go_loopw [5] (fun i w'=>∃k:Nat,k≤n∧i=.int .i64 k∧Hid (xs.take k=ys.take k)∧Below w.heap.size w w') (fun i _=>n-(intOf i).toNat)
  case atStart=>exact⟨0,Nat.zero_le _,rfl,rfl,Below.refl _ _⟩
  case round=>
   obtain⟨k,hk,rfl,ht,hb⟩:=hrel
   by_cases hlt:k<n
   ·obtain⟨ba,oa,x,Ax0,cx0,px0,rfl,hba,hxk,x0,tx0,lx0,mx0⟩:=aG.lW (hx.below hb) hn.out hlt;obtain⟨bb,ob,y,Ay0,cy0,py0,rfl,hbb,hyk,y0,ty0,ly0,my0⟩:=aG.lW (hy.below hb) hm.out hlt;have nx:=aG.oZ (w:=wr) (x:=x) tx0;have ny:=aG.oZ (w:=wr) (x:=y) ty0;cases hd:kX x y
    case false=>
     have hcall:=fun e:aK wr=>nQ x y _ (nx.below e.h) (ny.below e.h)
     rw[hd]at hcall;have HC:=Lib.hid hcall;clear hcall
     go_wp2_with fail
     have hext:=aK.cell (w:=wr);refine bB (by kernel_rfl) (by kernel_rfl) ?_
     repeat (go_big_quiet_step (exact Calls.gH (HC.out _)))
     refine wpQuiet_nil ?_;rintro _ ⟨e,rfl⟩;have hbe:=hb.trans (e.h.mono hb.size);clear hext
     go_wp2_with fail
     go_ret;exact⟨by rw[dS (zK hxk hyk (uw hd))];rfl,hbe⟩
    have hcall:=fun e:aK wr=>nQ x y _ (nx.below e.h) (ny.below e.h)
    rw[hd]at hcall;have HC:=Lib.hid hcall;clear hcall
    go_wp2_with fail
    have hext:=aK.cell (w:=wr);refine bB (by kernel_rfl) (by kernel_rfl) ?_
    repeat (go_big_quiet_step (exact Calls.gH (HC.out _)))
    refine wpQuiet_nil ?_;rintro _ ⟨e,rfl⟩;have hbe:=hb.trans (e.h.mono hb.size);clear hext
    go_wp2_with fail
    exact⟨⟨k+1,by omega,by go_num,iD ht hxk hyk (kG hd),hbe⟩,by simp[intOf];omega⟩
   ·have:k=n:=by omega
    subst this
    go_wp2_with fail
    go_ret;exact⟨by rw[jR (take_eq_all ht hn hm)];rfl,hb⟩
 ·have hne:=dS (uE (xs:=xs) (ys:=ys) rfl rfl hnm);generalize xs.length=n at*;generalize ys.length=m at*
  go_enter Tryz.func12,Tryz.ntmps12
  go_wp2_with fail
  go_ret;exact⟨by rw[hne];rfl,Below.refl _ _⟩
theorem Ca(xs ys:List aH){A B:Option Addr}{c d:Nat}{b1 b2}(w:World)(hx:T1 w (.sl xs.length (xs.flatMap aH.enc)) b1 (.slice A xs.length c))(hy:T1 w (.sl ys.length (ys.flatMap aH.enc)) b2 (.slice B ys.length d))(hn':xs.length≤maxLen)(hm':ys.length≤maxLen):
  Calls Tryz.prog 33 #[.slice A xs.length c,.slice B ys.length d] w fun e w'=>e=.returned (.bool (kX xs ys))∧Below w.heap.size w w':=by
 unfold maxLen at hn' hm'
 by_cases hnm:xs.length=ys.length
 ·obtain⟨n,hn0⟩:∃n,ys.length=n:=⟨_,rfl⟩;rw[hn0]at hnm;have hn:Hid (xs.length=n):=hnm;have hm:Hid (ys.length=n):=hn0;rw[hnm]at hx hn' ⊢;rw[hn0]at hy hm' ⊢;clear hnm hn0
  go_enter Tryz.func33,Tryz.ntmps33
  go_wp2_with fail
  go_loopw [5] (fun i w'=>∃k:Nat,k≤n∧i=.int .i64 k∧Hid (xs.take k=ys.take k)∧Below w.heap.size w w') (fun i _=>n-(intOf i).toNat)
  case atStart=>exact⟨0,Nat.zero_le _,rfl,rfl,Below.refl _ _⟩
  case round=>
   obtain⟨k,hk,rfl,ht,hb⟩:=hrel
   by_cases hlt:k<n
   ·obtain⟨ba,oa,x,rfl,hba,hxk,x0,x1⟩:=aH.lW (hx.below hb) hn.out hlt;obtain⟨bb,ob,y,rfl,hbb,hyk,y0,y1⟩:=aH.lW (hy.below hb) hm.out hlt;have nx:=aH.oZ (w:=wr) (x:=x);have ny:=aH.oZ (w:=wr) (x:=y);cases hd:kX x y
    case false=>
     have hcall:=fun e:aK wr=>xK x y _ (nx.below e.h) (ny.below e.h)
     rw[hd]at hcall;have HC:=Lib.hid hcall;clear hcall
     go_wp2_with fail
     have hext:=aK.cell (w:=wr);refine bB (by kernel_rfl) (by kernel_rfl) ?_
     repeat (go_big_quiet_step (exact Calls.gH (HC.out _)))
     refine wpQuiet_nil ?_;rintro _ ⟨e,rfl⟩;have hbe:=hb.trans (e.h.mono hb.size);clear hext
     go_wp2_with fail
     go_ret;exact⟨by rw[dS (zK hxk hyk (uw hd))];rfl,hbe⟩
    have hcall:=fun e:aK wr=>xK x y _ (nx.below e.h) (ny.below e.h)
    rw[hd]at hcall;have HC:=Lib.hid hcall;clear hcall
    go_wp2_with fail
    have hext:=aK.cell (w:=wr);refine bB (by kernel_rfl) (by kernel_rfl) ?_
    repeat (go_big_quiet_step (exact Calls.gH (HC.out _)))
    refine wpQuiet_nil ?_;rintro _ ⟨e,rfl⟩;have hbe:=hb.trans (e.h.mono hb.size);clear hext
    go_wp2_with fail
    exact⟨⟨k+1,by omega,by go_num,iD ht hxk hyk (kG hd),hbe⟩,by simp[intOf];omega⟩
   ·have:k=n:=by omega
    subst this
    go_wp2_with fail
    go_ret;exact⟨by rw[jR (take_eq_all ht hn hm)];rfl,hb⟩
 ·have hne:=dS (uE (xs:=xs) (ys:=ys) rfl rfl hnm);generalize xs.length=n at*;generalize ys.length=m at*
  go_enter Tryz.func33,Tryz.ntmps33
  go_wp2_with fail
  go_ret;exact⟨by rw[hne];rfl,Below.refl _ _⟩
theorem vD(xs ys:List aA){A B:Option Addr}{c d:Nat}{b1 b2}(w:World)(hx:T1 w (.sl xs.length (xs.flatMap aA.enc)) b1 (.slice A xs.length c))(hy:T1 w (.sl ys.length (ys.flatMap aA.enc)) b2 (.slice B ys.length d))(hn':xs.length≤maxLen)(hm':ys.length≤maxLen):
  Calls Tryz.prog 34 #[.slice A xs.length c,.slice B ys.length d] w fun e w'=>e=.returned (.bool (kX xs ys))∧Below w.heap.size w w':=by
 unfold maxLen at hn' hm'
 by_cases hnm:xs.length=ys.length
 ·obtain⟨n,hn0⟩:∃n,ys.length=n:=⟨_,rfl⟩;rw[hn0]at hnm;have hn:Hid (xs.length=n):=hnm;have hm:Hid (ys.length=n):=hn0;rw[hnm]at hx hn' ⊢;rw[hn0]at hy hm' ⊢;clear hnm hn0
  go_enter Tryz.func34,Tryz.ntmps34
  go_wp2_with fail
  go_loopw [5] (fun i w'=>∃k:Nat,k≤n∧i=.int .i64 k∧Hid (xs.take k=ys.take k)∧Below w.heap.size w w') (fun i _=>n-(intOf i).toNat)
  case atStart=>exact⟨0,Nat.zero_le _,rfl,rfl,Below.refl _ _⟩
  case round=>
   obtain⟨k,hk,rfl,ht,hb⟩:=hrel
   by_cases hlt:k<n
   ·obtain⟨ba,oa,x,Ax1,cx1,px1,Ax2,cx2,px2,rfl,hba,hxk,x0,x1,x2,tx1,lx1,mx1,tx2,lx2,mx2⟩:=aA.lW (hx.below hb) hn.out hlt;obtain⟨bb,ob,y,Ay1,cy1,py1,Ay2,cy2,py2,rfl,hbb,hyk,y0,y1,y2,ty1,ly1,my1,ty2,ly2,my2⟩:=aA.lW (hy.below hb) hm.out hlt;have nx:=aA.oZ (w:=wr) (x:=x) tx1 tx2;have ny:=aA.oZ (w:=wr) (x:=y) ty1 ty2;cases hd:kX x y
    case false=>
     have hcall:=fun e:aK wr=>nO x y _ (nx.below e.h) (ny.below e.h)
     rw[hd]at hcall;have HC:=Lib.hid hcall;clear hcall
     go_wp2_with fail
     have hext:=aK.cell (w:=wr);refine bB (by kernel_rfl) (by kernel_rfl) ?_
     repeat (go_big_quiet_step (exact Calls.gH (HC.out _)))
     refine wpQuiet_nil ?_;rintro _ ⟨e,rfl⟩;have hbe:=hb.trans (e.h.mono hb.size);clear hext
     go_wp2_with fail
     go_ret;exact⟨by rw[dS (zK hxk hyk (uw hd))];rfl,hbe⟩
    have hcall:=fun e:aK wr=>nO x y _ (nx.below e.h) (ny.below e.h)
    rw[hd]at hcall;have HC:=Lib.hid hcall;clear hcall
    go_wp2_with fail
    have hext:=aK.cell (w:=wr);refine bB (by kernel_rfl) (by kernel_rfl) ?_
    repeat (go_big_quiet_step (exact Calls.gH (HC.out _)))
    refine wpQuiet_nil ?_;rintro _ ⟨e,rfl⟩;have hbe:=hb.trans (e.h.mono hb.size);clear hext
    go_wp2_with fail
    exact⟨⟨k+1,by omega,by go_num,iD ht hxk hyk (kG hd),hbe⟩,by simp[intOf];omega⟩
   ·have:k=n:=by omega
    subst this
    go_wp2_with fail
    go_ret;exact⟨by rw[jR (take_eq_all ht hn hm)];rfl,hb⟩
 ·have hne:=dS (uE (xs:=xs) (ys:=ys) rfl rfl hnm);generalize xs.length=n at*;generalize ys.length=m at*
  go_enter Tryz.func34,Tryz.ntmps34
  go_wp2_with fail
  go_ret;exact⟨by rw[hne];rfl,Below.refl _ _⟩
theorem mF(x y:aL){b1 b2 us vs}(w:World)(hx:TN w x.enc b1 us)(hy:TN w y.enc b2 vs):
  Calls Tryz.prog 11 #[.agg us.toArray,.agg vs.toArray] w fun e w'=>e=.returned (.bool (kX x y))∧Below w.heap.size w w':=by
 obtain⟨Ax0,cx0,bx0,Ax1,cx1,bx1,Ax4,cx4,bx4,Ax5,cx5,bx5,Ax6,cx6,bx6,Ax7,cx7,bx7,rfl,rfl,tx0,lx0,mx0,tx1,lx1,mx1,tx4,lx4,mx4,tx5,lx5,mx5,tx6,lx6,mx6,tx7,lx7,mx7⟩:=aL.us hx;obtain⟨Ay0,cy0,by0,Ay1,cy1,by1,Ay4,cy4,by4,Ay5,cy5,by5,Ay6,cy6,by6,Ay7,cy7,by7,rfl,rfl,ty0,ly0,my0,ty1,ly1,my1,ty4,ly4,my4,ty5,ly5,my5,ty6,ly6,my6,ty7,ly7,my7⟩:=aL.us hy;have HB:=((Below.refl w.heap.size w).alloc (Nat.le_refl _) (.cells #[.slice Ax0 x.book.length cx0,.slice Ax1 x.schedule.length cx1,.int .i64 x.every,.int .i64 x.at_,.slice Ax4 x.net.agents.length cx4,.slice Ax5 x.origins.length cx5,.slice Ax6 x.breaks.length cx6,.slice Ax7 x.points.length cx7] 37)).alloc (by simp) (.cells #[.slice Ay0 y.book.length cy0,.slice Ay1 y.schedule.length cy1,.int .i64 y.every,.int .i64 y.at_,.slice Ay4 y.net.agents.length cy4,.slice Ay5 y.origins.length cy5,.slice Ay6 y.breaks.length cy6,.slice Ay7 y.points.length cy7] 37)
 go_enter Tryz.func11,Tryz.ntmps11
 have sx0:=tx0.below HB;have sy0:=ty0.below HB
 go_wp2_with fail
 refine(zf x.book y.book _ sx0 sy0 (Nat.le_trans lx0 mx0) (Nat.le_trans ly0 my0)).mono ?_;rintro e w1 ⟨rfl,hb1⟩;have B1:=HB.trans (hb1.mono HB.size);obtain⟨hc1,hf1⟩:=qo hb1;have hz1:w.heap.size+1<w1.heap.size:=by have:=hb1.size;simp at this;omega
 have ha1:=fun o=>hc1 w.heap.size o (by first|(simp;done)|(simp;omega))
 have he1:=fun o=>hc1 (w.heap.size+1) o (by first|(simp;done)|(simp;omega))
 have hg1:=fun o=>hf1 w.heap.size o (by first|(simp;done)|(simp;omega))
 have hi1:=fun o=>hf1 (w.heap.size+1) o (by first|(simp;done)|(simp;omega))
 clear hc1 hf1;clear hb1;cases hq0:kX x.book y.book
 case false=>
  go_wp2_with fail
  go_ret;exact⟨by rw[dS (fun e=>by rw[e]at hq0;exact absurd hq0 (by simp[eT]))];rfl,B1⟩
 have sx1:=tx1.below B1;have sy1:=ty1.below B1
 go_wp2_with fail
 refine(oP x.schedule y.schedule _ sx1 sy1 (Nat.le_trans lx1 mx1) (Nat.le_trans ly1 my1)).mono ?_;rintro e w2 ⟨rfl,hb2⟩;have B2:=B1.trans (hb2.mono B1.size);obtain⟨hc2,hf2⟩:=qo hb2;have hz2:w.heap.size+1<w2.heap.size:=by have:=hb2.size;omega
 have ha2:=fun o=>(hc2 w.heap.size o (by omega)).trans (ha1 o)
 have he2:=fun o=>(hc2 (w.heap.size+1) o (by omega)).trans (he1 o)
 have hg2:=fun o=>(hf2 w.heap.size o (by omega)).trans (hg1 o)
 have hi2:=fun o=>(hf2 (w.heap.size+1) o (by omega)).trans (hi1 o)
 clear hc2 hf2;clear hb2;cases hq1:kX x.schedule y.schedule
 case false=>
  go_wp2_with fail
  go_ret;exact⟨by rw[dS (fun e=>by rw[e]at hq1;exact absurd hq1 (by simp[eT]))];rfl,B2⟩
 cases hq2:(x.every !=y.every)
 case true=>
  go_wp2_with fail
  go_ret;exact⟨by rw[dS (fun e=>by rw[e]at hq2;simp at hq2)];rfl,B2⟩
 cases hq3:(x.at_ !=y.at_)
 case true=>
  go_wp2_with fail
  go_ret;exact⟨by rw[dS (fun e=>by rw[e]at hq3;simp at hq3)];rfl,B2⟩
 have nx4:=aG.oZ (x:=x.net) (tx4.below B2);have ny4:=aG.oZ (x:=y.net) (ty4.below B2)
 go_wp2_with fail
 refine(nQ x.net y.net _ nx4 ny4).mono ?_;rintro e w3 ⟨rfl,hb3⟩;have B3:=B2.trans (hb3.mono B2.size);obtain⟨hc3,hf3⟩:=qo hb3;have hz3:w.heap.size+1<w3.heap.size:=by have:=hb3.size;omega
 have ha3:=fun o=>(hc3 w.heap.size o (by omega)).trans (ha2 o)
 have he3:=fun o=>(hc3 (w.heap.size+1) o (by omega)).trans (he2 o)
 have hg3:=fun o=>(hf3 w.heap.size o (by omega)).trans (hg2 o)
 have hi3:=fun o=>(hf3 (w.heap.size+1) o (by omega)).trans (hi2 o)
 clear hc3 hf3;clear hb3;cases hq4:kX x.net y.net
 case false=>
  go_wp2_with fail
  go_ret;exact⟨by rw[dS (fun e=>by rw[e]at hq4;exact absurd hq4 (by simp[eT]))];rfl,B3⟩
 have sx5:=tx5.below B3;have sy5:=ty5.below B3
 go_wp2_with fail
 refine(tF x.origins y.origins _ sx5 sy5 (Nat.le_trans lx5 mx5) (Nat.le_trans ly5 my5)).mono ?_;rintro e w4 ⟨rfl,hb4⟩;have B4:=B3.trans (hb4.mono B3.size);obtain⟨hc4,hf4⟩:=qo hb4;have hz4:w.heap.size+1<w4.heap.size:=by have:=hb4.size;omega
 have ha4:=fun o=>(hc4 w.heap.size o (by omega)).trans (ha3 o)
 have he4:=fun o=>(hc4 (w.heap.size+1) o (by omega)).trans (he3 o)
 have hg4:=fun o=>(hf4 w.heap.size o (by omega)).trans (hg3 o)
 have hi4:=fun o=>(hf4 (w.heap.size+1) o (by omega)).trans (hi3 o)
 clear hc4 hf4;clear hb4;cases hq5:kX x.origins y.origins
 case false=>
  go_wp2_with fail
  go_ret;exact⟨by rw[dS (fun e=>by rw[e]at hq5;exact absurd hq5 (by simp[eT]))];rfl,B4⟩
 have sx6:=tx6.below B4;have sy6:=ty6.below B4
 go_wp2_with fail
 refine(Ca x.breaks y.breaks _ sx6 sy6 (Nat.le_trans lx6 mx6) (Nat.le_trans ly6 my6)).mono ?_;rintro e w5 ⟨rfl,hb5⟩;have B5:=B4.trans (hb5.mono B4.size);obtain⟨hc5,hf5⟩:=qo hb5;have hz5:w.heap.size+1<w5.heap.size:=by have:=hb5.size;omega
 have ha5:=fun o=>(hc5 w.heap.size o (by omega)).trans (ha4 o)
 have he5:=fun o=>(hc5 (w.heap.size+1) o (by omega)).trans (he4 o)
 have hg5:=fun o=>(hf5 w.heap.size o (by omega)).trans (hg4 o)
 have hi5:=fun o=>(hf5 (w.heap.size+1) o (by omega)).trans (hi4 o)
 clear hc5 hf5;clear hb5;cases hq6:kX x.breaks y.breaks
 case false=>
  go_wp2_with fail
  go_ret;exact⟨by rw[dS (fun e=>by rw[e]at hq6;exact absurd hq6 (by simp[eT]))];rfl,B5⟩
 have sx7:=tx7.below B5;have sy7:=ty7.below B5
 go_wp2_with fail
 refine(vD x.points y.points _ sx7 sy7 (Nat.le_trans lx7 mx7) (Nat.le_trans ly7 my7)).mono ?_;rintro e w6 ⟨rfl,hb6⟩;have B6:=B5.trans (hb6.mono B5.size);obtain⟨hc6,hf6⟩:=qo hb6;have hz6:w.heap.size+1<w6.heap.size:=by have:=hb6.size;omega
 have ha6:=fun o=>(hc6 w.heap.size o (by omega)).trans (ha5 o)
 have he6:=fun o=>(hc6 (w.heap.size+1) o (by omega)).trans (he5 o)
 have hg6:=fun o=>(hf6 w.heap.size o (by omega)).trans (hg5 o)
 have hi6:=fun o=>(hf6 (w.heap.size+1) o (by omega)).trans (hi5 o)
 clear hc6 hf6;clear hb6;cases hq7:kX x.points y.points
 case false=>
  go_wp2_with fail
  go_ret;exact⟨by rw[dS (fun e=>by rw[e]at hq7;exact absurd hq7 (by simp[eT]))];rfl,B6⟩
 go_wp2_with fail
 go_ret;refine⟨?_,B6⟩;have hxy:x=y:=aL.vH (kG hq0) (kG hq1) (show x.every=y.every by simpa using hq2) (show x.at_=y.at_ by simpa using hq3) (kG hq4) (kG hq5) (kG hq6) (kG hq7);rw[jR hxy];rfl
theorem Gn(x:aC)(w:World):
  Calls Tryz.prog 86 #[.agg #[.int .i64 x.agent,.int .i64 x.slot]] w fun e w'=>e=.returned (.agg #[.int .i64 x.agent,.int .i64 x.slot])∧Below w.heap.size w w':=by
 go_enter Tryz.func86,Tryz.ntmps86
 go_wp2
 refine bodyPost_ret (v:=.agg #[.int .i64 x.agent,.int .i64 x.slot]) (by simp[results,Tryz.results86,go_sem]) rfl ⟨rfl,?_⟩;exact(by repeat (first|exact Below.refl _ _|assumption|(refine Below.setCell ?_ (by first|omega|(simp;done)|(simp;omega)) _)|(refine Below.alloc ?_ (by first|omega|(simp;done)|(simp;omega)) _)))
theorem kC(xs:List Int){A:Option Addr}{c:Nat}{b1}(w:World)(hx:T1 w (.sl xs.length (xs.flatMap aT)) b1 (.slice A xs.length c))(hs:xs.length≤1048576):
  Calls Tryz.prog 9 #[.slice A xs.length c] w fun e w'=>∃A' c' bs,e=.returned (.slice A' xs.length c')∧Below w.heap.size w w'∧T1 w' (.sl xs.length (xs.flatMap aT)) bs (.slice A' xs.length c')∧Own w.heap.size w' bs:=by
 have hs1:=Lib.hid hs;have hn':xs.length≤1048576:=hs;clear hs;have hn:Hid (xs.length=xs.length):=rfl;generalize hl:xs.length=n at hx hn' hn ⊢
 replace hn:Hid (xs.length=n):=hl
 clear hl;obtain⟨M,hms,hmk,hsz'⟩:=oW (P:=Tryz.prog) (t:=26) (e:=2) (s:=1) (by kernel_rfl) Tryz.underlying26 hn';have hsz:=hsz';have Hms:=Lib.hid hms;clear hsz' hms
 go_enter Tryz.func9,Tryz.ntmps9
 go_wp2_with fail
 go_loopw [4] (fun i w'=>∃k:Nat,k≤n∧i=.int .i64 k∧Below w.heap.size w w'∧∃bs us,fZ w' w.heap.size 2 n 1 us∧us.length=k*1∧TN w' ((xs.take k).flatMap aT) bs us∧Own (w.heap.size+1) w' bs) (fun i _=>n-(intOf i).toNat)
 case atStart=>exact⟨0,by omega,rfl,(Below.refl _ _).alloc (Nat.le_refl _) _,[],[],fZ.new _ _ 2 n 1 Hms.out,by simp,by simpa using TN.done,Own.nil _ _⟩
 case round=>
  obtain⟨k,hk,rfl,hb,bs,us,hrow,hul,ht,ho⟩:=hrel
  by_cases hlt:k<n
  ·obtain⟨ba,oa,x,rfl,_,hba,hxk,x0⟩:=Cy (hx.below hb) hn.out hlt;have hul':=Lib.hid hul;clear hul;have hT:=TN.append.2 ⟨bs,[],us,_,rfl,rfl,ht,TN.kE (w:=wr) (x:=.int .i64 x) rfl TN.done⟩
   go_wp2_with (refine iQ rfl 2 (.tmp 20) (.tmp 19) rfl w.heap.size 2 n 1 k us (.int .i64 x) (by rw[Nat.mul_one];rfl) rfl hrow hul'.out hlt hsz.h rfl rfl ?_;intro w2 hr2 hb2 hs2 ho2)
   have hbt:But w.heap.size wr w2:=⟨hb2.os,hb2.tape,hb2.output,hb2.size,fun j _ hj=>ho2 j hj⟩
   go_roundw
   case rel=>exact⟨k+1,by omega,by go_num,hb.trans hb2,bs++[],_,hr2,by simp[hul'.out,Value.cells,Nat.add_mul],by rw[nR aT hxk];exact hT.but hbt (by simpa using ho.vS (by omega)),by simpa using ho.but hbt (ho.vS (by omega))⟩
   case measure=>simp[intOf];omega
  ·have:k=n:=by omega
   subst this
   go_wp2_with fail
   go_ret;rw[qN (by rw[hn.out];exact Nat.le_refl _)]at ht;rcases Nat.eq_zero_or_pos k with h0|h0
   ·subst h0;have:xs=[]:=List.eq_nil_of_length_eq_zero hn.out;subst this;exact⟨_,_,[],rfl,hb,T1.empty _,Own.nil _ _⟩
   ·obtain⟨cur,t',hg⟩:=hrow.own;exact⟨_,_,w.heap.size::bs,rfl,hb,T1.zN hrow h0 (by unfold maxLen;omega) ht,Own.cons hg (Nat.le_refl _) ho⟩
theorem Fe(xs:List aC){A:Option Addr}{c:Nat}{b1}(w:World)(hx:T1 w (.sl xs.length (xs.flatMap aC.enc)) b1 (.slice A xs.length c))(hs:xs.length≤1048576∧∀y∈xs,aC.small y):
  Calls Tryz.prog 77 #[.slice A xs.length c] w fun e w'=>∃A' c' bs,e=.returned (.slice A' xs.length c')∧Below w.heap.size w w'∧T1 w' (.sl xs.length (xs.flatMap aC.enc)) bs (.slice A' xs.length c')∧Own w.heap.size w' bs:=by
 have hs1:=Lib.hid hs;have hn':xs.length≤1048576:=hs.1;clear hs;have hn:Hid (xs.length=xs.length):=rfl;generalize hl:xs.length=n at hx hn' hn ⊢
 replace hn:Hid (xs.length=n):=hl
 clear hl;obtain⟨M,hms,hmk,hsz'⟩:=oW (P:=Tryz.prog) (t:=84) (e:=92) (s:=2) (by kernel_rfl) Tryz.underlying84 hn';have hsz:=hsz';have Hms:=Lib.hid hms;clear hsz' hms
 go_enter Tryz.func77,Tryz.ntmps77
 go_wp2_with fail
 go_loopw [4] (fun i w'=>∃k:Nat,k≤n∧i=.int .i64 k∧Below w.heap.size w w'∧∃bs us,fZ w' w.heap.size 92 n 2 us∧us.length=k*2∧TN w' ((xs.take k).flatMap aC.enc) bs us∧Own (w.heap.size+1) w' bs) (fun i _=>n-(intOf i).toNat)
 case atStart=>exact⟨0,by omega,rfl,(Below.refl _ _).alloc (Nat.le_refl _) _,[],[],fZ.new _ _ 92 n 2 Hms.out,by simp,by simpa using TN.done,Own.nil _ _⟩
 case round=>
  obtain⟨k,hk,rfl,hb,bs,us,hrow,hul,ht,ho⟩:=hrel
  by_cases hlt:k<n
  ·obtain⟨ba,oa,x,rfl,hba,hxk,x0,x1⟩:=aC.lW (hx.below hb) hn.out hlt;have hul':=Lib.hid hul;clear hul
   go_wp2_with fail
   refine(Gn x _).mono ?_;rintro e w1 ⟨rfl,hb1⟩;have hT:=TN.append.2 ⟨bs,[],us,_,rfl,rfl,ht.below hb1,aC.oZ (w:=w1) (x:=x)⟩
   go_wp2_with (refine iQ rfl 92 (.tmp 21) (.tmp 20) rfl w.heap.size 92 n 2 k us (.agg #[.int .i64 x.agent,.int .i64 x.slot]) rfl rfl (hrow.below hb1) hul'.out hlt hsz.h rfl rfl ?_;intro w2 hr2 hb2 hs2 ho2)
   have hbt:But w.heap.size w1 w2:=⟨hb2.os,hb2.tape,hb2.output,hb2.size,fun j _ hj=>ho2 j hj⟩
   go_roundw
   case rel=>exact⟨k+1,by omega,by go_num,(hb.trans (hb1.mono hb.size)).trans hb2,bs++[],_,hr2,by simp[hul'.out,Value.cells,Nat.add_mul],by rw[nR aC.enc hxk];exact hT.but hbt (by simpa using ho.vS (by omega)),by simpa using(ho.below hb1).but hbt (ho.vS (by omega))⟩
   case measure=>simp[intOf];omega
  ·have:k=n:=by omega
   subst this
   go_wp2_with fail
   go_ret;rw[qN (by rw[hn.out];exact Nat.le_refl _)]at ht;rcases Nat.eq_zero_or_pos k with h0|h0
   ·subst h0;have:xs=[]:=List.eq_nil_of_length_eq_zero hn.out;subst this;exact⟨_,_,[],rfl,hb,T1.empty _,Own.nil _ _⟩
   ·obtain⟨cur,t',hg⟩:=hrow.own;exact⟨_,_,w.heap.size::bs,rfl,hb,T1.zN hrow h0 (by unfold maxLen;omega) ht,Own.cons hg (Nat.le_refl _) ho⟩
theorem Fb(x:ay){b us}(w:World)(hx:TN w x.enc b us)(hs:x.small):
  Calls Tryz.prog 53 #[.agg us.toArray] w fun e w'=>∃vs bs,e=.returned (.agg vs.toArray)∧Below w.heap.size w w'∧TN w' x.enc bs vs∧Own w.heap.size w' bs:=by
 obtain⟨Ax3,cx3,bx3,Ax4,cx4,bx4,rfl,rfl,tx3,lx3,mx3,tx4,lx4,mx4⟩:=ay.us hx;obtain⟨s3,s4⟩:=hs
 go_enter Tryz.func53,Tryz.ntmps53
 have B0:∀S Z O,Below w.heap.size w (((w.alloc S).alloc Z).alloc O):=fun _ _ _=>(((Below.refl _ _).alloc (Nat.le_refl _) _).alloc (by simp) _).alloc (by simp;omega) _
 go_wp2_with fail
 refine(kC x.data _ (tx3.below (B0 _ _ _)) s3).mono ?_;rintro e w1 ⟨A1,a1,d1,rfl,hb1,y1,o1⟩;have z1:w.heap.size+2<w1.heap.size:=by have:=hb1.size;simp at this;omega
 have B1:Below w.heap.size w w1:=Below.trans (B0 _ _ _) (hb1.mono (by simp<;>omega))
 replace o1:Own (w.heap.size+3) w1 d1:=by simpa using o1
 have r1_0:=(hb1.block w.heap.size (by simp<;>omega)).trans (BA w _ _ _).1;have r1_1:=(hb1.block (w.heap.size+1) (by simp<;>omega)).trans (BA w _ _ _).2.1;have r1_2:=(hb1.block (w.heap.size+1+1) (by simp<;>omega)).trans (BA w _ _ _).2.2;have q1_0_0:=cell_of_row _ _ 0 _ _ _ r1_0;have q1_0_1:=cell_of_row _ _ 1 _ _ _ r1_0;have q1_0_2:=cell_of_row _ _ 2 _ _ _ r1_0;have q1_0_3:=cell_of_row _ _ 3 _ _ _ r1_0;have q1_0_4:=cell_of_row _ _ 4 _ _ _ r1_0;simp only[List.getElem?_toArray,List.getElem?_cons_zero,List.getElem?_cons_succ]at q1_0_0 q1_0_1 q1_0_2 q1_0_3 q1_0_4
 have f1_0:=eB r1_0;have q1_1_0:=cell_of_row _ _ 0 _ _ _ r1_1;have q1_1_1:=cell_of_row _ _ 1 _ _ _ r1_1;have q1_1_2:=cell_of_row _ _ 2 _ _ _ r1_1;have q1_1_3:=cell_of_row _ _ 3 _ _ _ r1_1;have q1_1_4:=cell_of_row _ _ 4 _ _ _ r1_1;simp only[List.getElem?_toArray,List.getElem?_cons_zero,List.getElem?_cons_succ]at q1_1_0 q1_1_1 q1_1_2 q1_1_3 q1_1_4;have f1_1:=eB r1_1;have q1_2_0:=cell_of_row _ _ 0 _ _ _ r1_2;have q1_2_1:=cell_of_row _ _ 1 _ _ _ r1_2;have q1_2_2:=cell_of_row _ _ 2 _ _ _ r1_2;have q1_2_3:=cell_of_row _ _ 3 _ _ _ r1_2;have q1_2_4:=cell_of_row _ _ 4 _ _ _ r1_2
 simp only[List.getElem?_toArray,List.getElem?_cons_zero,List.getElem?_cons_succ]at q1_2_0 q1_2_1 q1_2_2 q1_2_3 q1_2_4;have f1_2:=eB r1_2;clear hb1
 go_wp2_with fail
 refine(Fe x.aD _ (tx4.below (B1.setCell (by simp<;>omega) _)) s4).mono ?_;rintro e w2 ⟨A2,a2,d2,rfl,hb2,y2,o2⟩;have z2:w.heap.size+2<w2.heap.size:=by have:=hb2.size;simp at this;omega
 have B2:Below w.heap.size w w2:=Below.trans (B1.setCell (by simp<;>omega) _) (hb2.mono (by simp<;>omega));have g2:uP (w.heap.size+3) w1 w2:=uP.below ((uP.refl (w.heap.size+3) _).setCell (by simp<;>omega) _) hb2
 replace o2:Own w1.heap.size w2 d2:=by simpa using o2
 have r2_0:=(hb2.block w.heap.size (by simp<;>omega)).trans ((Below.heap_setCell _ _ _ _ (by simp<;>omega)).trans r1_0);have r2_1:=(hb2.block (w.heap.size+1) (by simp<;>omega)).trans ((Below.heap_setCell _ _ _ _ (by simp<;>omega)).trans r1_1);have r2_2:=(hb2.block (w.heap.size+1+1) (by simp<;>omega)).trans (Rows.aV r1_2);simp only[List.setIfInBounds_toArray,List.set_cons_zero,List.set_cons_succ]at r2_2;have q2_0_0:=cell_of_row _ _ 0 _ _ _ r2_0;have q2_0_1:=cell_of_row _ _ 1 _ _ _ r2_0;have q2_0_2:=cell_of_row _ _ 2 _ _ _ r2_0;have q2_0_3:=cell_of_row _ _ 3 _ _ _ r2_0
 have q2_0_4:=cell_of_row _ _ 4 _ _ _ r2_0;simp only[List.getElem?_toArray,List.getElem?_cons_zero,List.getElem?_cons_succ]at q2_0_0 q2_0_1 q2_0_2 q2_0_3 q2_0_4;have f2_0:=eB r2_0;have q2_1_0:=cell_of_row _ _ 0 _ _ _ r2_1;have q2_1_1:=cell_of_row _ _ 1 _ _ _ r2_1;have q2_1_2:=cell_of_row _ _ 2 _ _ _ r2_1;have q2_1_3:=cell_of_row _ _ 3 _ _ _ r2_1;have q2_1_4:=cell_of_row _ _ 4 _ _ _ r2_1;simp only[List.getElem?_toArray,List.getElem?_cons_zero,List.getElem?_cons_succ]at q2_1_0 q2_1_1 q2_1_2 q2_1_3 q2_1_4;have f2_1:=eB r2_1;have q2_2_0:=cell_of_row _ _ 0 _ _ _ r2_2
 have q2_2_1:=cell_of_row _ _ 1 _ _ _ r2_2;have q2_2_2:=cell_of_row _ _ 2 _ _ _ r2_2;have q2_2_3:=cell_of_row _ _ 3 _ _ _ r2_2;have q2_2_4:=cell_of_row _ _ 4 _ _ _ r2_2;simp only[List.getElem?_toArray,List.getElem?_cons_zero,List.getElem?_cons_succ]at q2_2_0 q2_2_1 q2_2_2 q2_2_3 q2_2_4;have f2_2:=eB r2_2;clear r1_0 f1_0 q1_0_0 q1_0_1 q1_0_2 q1_0_3 q1_0_4 r1_1 f1_1 q1_1_0 q1_1_1 q1_1_2 q1_1_3 q1_1_4 r1_2 f1_2 q1_2_0 q1_2_1 q1_2_2 q1_2_3 q1_2_4;clear hb2
 go_wp2_with fail
 have HG:∀W',uP (w.heap.size+3) w2 W'→TN W' x.enc (d1++d2) [.int .i64 x.kind,.int .i64 x.level,.int .i64 x.value,.slice A1 x.data.length a1,.slice A2 x.aD.length a2]∧Own w.heap.size W' (d1++d2):=by
  intro W' hW;have k2:=hW;have k1:=g2.trans k2;have s_1:w1.heap.size≤w2.heap.size:=g2.1;have ht:=ay.oZ (w:=W') (x:=x) (y1.Md k1 o1.ge) (y2.Md k2 (fun b hb=>Nat.le_trans (by omega) (o2.ge b hb)));have p1:Own w.heap.size W' d1:=(o1.Md k1 (by omega)).mono (by omega);have l1:∀b∈d1,b<w1.heap.size:=o1.lt;have p2:Own w.heap.size W' (d1++d2):=Own.append p1 (fun b hb=>qW (l1 b hb) (by omega)) (o2.Md k2 (by omega)) (by omega);have l2:∀b∈d1++d2,b<w2.heap.size:=fun b hb=>(qT.1 hb).elim (fun h=>qW (l1 b h) (by omega)) (o2.lt b)
  exact⟨by simpa[qF]using ht,p2⟩
 refine bodyPost_ret (v:=.agg #[.int .i64 x.kind,.int .i64 x.level,.int .i64 x.value,.slice A1 x.data.length a1,.slice A2 x.aD.length a2]) (by simp[results,Tryz.results53,go_sem,q2_1_0,q2_1_1,q2_1_2,q2_1_3,q2_1_4]) rfl ?_;refine⟨_,_,rfl,?_,HG _ ?_⟩
 ·repeat (refine Below.setCell ?_ (by simp<;>omega) _)
  exact B2
 ·repeat (refine uP.setCell ?_ (by simp<;>omega) _)
  exact uP.refl _ _
theorem Dk(xs:List ay){A:Option Addr}{c:Nat}{b1}(w:World)(hx:T1 w (.sl xs.length (xs.flatMap ay.enc)) b1 (.slice A xs.length c))(hs:xs.length≤1048576∧∀y∈xs,ay.small y):
  Calls Tryz.prog 24 #[.slice A xs.length c] w fun e w'=>∃A' c' bs,e=.returned (.slice A' xs.length c')∧Below w.heap.size w w'∧T1 w' (.sl xs.length (xs.flatMap ay.enc)) bs (.slice A' xs.length c')∧Own w.heap.size w' bs:=by
 have hs1:=Lib.hid hs;have hn':xs.length≤1048576:=hs.1;clear hs;have hn:Hid (xs.length=xs.length):=rfl;generalize hl:xs.length=n at hx hn' hn ⊢
 replace hn:Hid (xs.length=n):=hl
 clear hl;obtain⟨M,hms,hmk,hsz'⟩:=oW (P:=Tryz.prog) (t:=30) (e:=86) (s:=5) (by kernel_rfl) Tryz.underlying30 hn';have hsz:=hsz';have Hms:=Lib.hid hms;clear hsz' hms
 go_enter Tryz.func24,Tryz.ntmps24
 go_wp2_with fail
 go_loopw [4] (fun i w'=>∃k:Nat,k≤n∧i=.int .i64 k∧Below w.heap.size w w'∧∃bs us,fZ w' w.heap.size 86 n 5 us∧us.length=k*5∧TN w' ((xs.take k).flatMap ay.enc) bs us∧Own (w.heap.size+1) w' bs) (fun i _=>n-(intOf i).toNat)
 case atStart=>exact⟨0,by omega,rfl,(Below.refl _ _).alloc (Nat.le_refl _) _,[],[],fZ.new _ _ 86 n 5 Hms.out,by simp,by simpa using TN.done,Own.nil _ _⟩
 case round=>
  obtain⟨k,hk,rfl,hb,bs,us,hrow,hul,ht,ho⟩:=hrel
  by_cases hlt:k<n
  ·obtain⟨ba,oa,x,Ax3,cx3,px3,Ax4,cx4,px4,rfl,hba,hxk,x0,x1,x2,x3,x4,tx3,lx3,mx3,tx4,lx4,mx4⟩:=ay.lW (hx.below hb) hn.out hlt;have nx:=ay.oZ (w:=wr) (x:=x) tx3 tx4;have hul':=Lib.hid hul;clear hul
   go_wp2_with fail
   refine(Fb x _ nx (hs1.out.2 x (List.mem_of_getElem? hxk.out))).mono ?_;rintro e w1 ⟨vs,ds,rfl,hb1,hy,oy⟩;have hvl:vs.toArray.size=5:=by have:=hy.length;simpa[ay.enc]using this
   have hv1:vs.all (·.oneCell')=true:=hy.CS;have hT:=TN.append.2 ⟨bs,_,us,vs,rfl,rfl,ht.below hb1,hy⟩;have hO:Own (w.heap.size+1) w1 (bs++ds):=Own.append (ho.below hb1) ho.lt oy (by have:=hrow.lt;omega)
   go_wp2_with (refine iQ rfl 86 (.tmp 21) (.tmp 20) rfl w.heap.size 86 n 5 k us (.agg vs.toArray) (by first|rfl|(rw[Nat.mul_one];rfl)) rfl (hrow.below hb1) hul'.out hlt hsz.h hvl (by simpa[Value.cells]using hv1) ?_;intro w2 hr2 hb2 hs2 ho2)
   have hbt:But w.heap.size w1 w2:=⟨hb2.os,hb2.tape,hb2.output,hb2.size,fun j _ hj=>ho2 j hj⟩
   go_roundw
   case rel=>exact⟨k+1,by omega,by go_num,(hb.trans (hb1.mono hb.size)).trans hb2,_,_,hr2,by have:=hvl;simp[hul'.out,Value.cells,Nat.add_mul]at this ⊢;omega,by rw[nR ay.enc hxk];exact hT.but hbt (hO.vS (by omega)),hO.but hbt (hO.vS (by omega))⟩
   case measure=>simp[intOf];omega
  ·have:k=n:=by omega
   subst this
   go_wp2_with fail
   go_ret;rw[qN (by rw[hn.out];exact Nat.le_refl _)]at ht;rcases Nat.eq_zero_or_pos k with h0|h0
   ·subst h0;have:xs=[]:=List.eq_nil_of_length_eq_zero hn.out;subst this;exact⟨_,_,[],rfl,hb,T1.empty _,Own.nil _ _⟩
   ·obtain⟨cur,t',hg⟩:=hrow.own;exact⟨_,_,w.heap.size::bs,rfl,hb,T1.zN hrow h0 (by unfold maxLen;omega) ht,Own.cons hg (Nat.le_refl _) ho⟩
theorem oF(x:aG){b us}(w:World)(hx:TN w x.enc b us)(hs:x.small):
  Calls Tryz.prog 8 #[.agg us.toArray] w fun e w'=>∃vs bs,e=.returned (.agg vs.toArray)∧Below w.heap.size w w'∧TN w' x.enc bs vs∧Own w.heap.size w' bs:=by
 obtain⟨Ax0,cx0,bx0,rfl,rfl,tx0,lx0,mx0⟩:=aG.us hx;have s0:=hs
 go_enter Tryz.func8,Tryz.ntmps8
 have B0:∀S Z O,Below w.heap.size w (((w.alloc S).alloc Z).alloc O):=fun _ _ _=>(((Below.refl _ _).alloc (Nat.le_refl _) _).alloc (by simp) _).alloc (by simp;omega) _
 go_wp2_with fail
 refine(Dk x.agents _ (tx0.below (B0 _ _ _)) s0).mono ?_;rintro e w1 ⟨A1,a1,d1,rfl,hb1,y1,o1⟩;have z1:w.heap.size+2<w1.heap.size:=by have:=hb1.size;simp at this;omega
 have B1:Below w.heap.size w w1:=Below.trans (B0 _ _ _) (hb1.mono (by simp<;>omega))
 replace o1:Own (w.heap.size+3) w1 d1:=by simpa using o1
 have r1_0:=(hb1.block w.heap.size (by simp<;>omega)).trans (BA w _ _ _).1;have r1_1:=(hb1.block (w.heap.size+1) (by simp<;>omega)).trans (BA w _ _ _).2.1;have r1_2:=(hb1.block (w.heap.size+1+1) (by simp<;>omega)).trans (BA w _ _ _).2.2;have q1_0_0:=cell_of_row _ _ 0 _ _ _ r1_0;simp only[List.getElem?_toArray,List.getElem?_cons_zero,List.getElem?_cons_succ]at q1_0_0;have f1_0:=eB r1_0;have q1_1_0:=cell_of_row _ _ 0 _ _ _ r1_1;simp only[List.getElem?_toArray,List.getElem?_cons_zero,List.getElem?_cons_succ]at q1_1_0;have f1_1:=eB r1_1
 have q1_2_0:=cell_of_row _ _ 0 _ _ _ r1_2;simp only[List.getElem?_toArray,List.getElem?_cons_zero,List.getElem?_cons_succ]at q1_2_0;have f1_2:=eB r1_2;clear hb1
 go_wp2_with fail
 have HG:∀W',uP (w.heap.size+3) w1 W'→TN W' x.enc (d1) [.slice A1 x.agents.length a1]∧Own w.heap.size W' (d1):=by
  intro W' hW;have k1:=hW;have ht:=aG.oZ (w:=W') (x:=x) (y1.Md k1 o1.ge);have p1:Own w.heap.size W' d1:=(o1.Md k1 (by omega)).mono (by omega);have l1:∀b∈d1,b<w1.heap.size:=o1.lt;exact⟨by simpa[qF]using ht,p1⟩
 refine bodyPost_ret (v:=.agg #[.slice A1 x.agents.length a1]) (by simp[results,Tryz.results8,go_sem,q1_1_0]) rfl ?_;refine⟨_,_,rfl,?_,HG _ ?_⟩
 ·repeat (refine Below.setCell ?_ (by simp<;>omega) _)
  exact B1
 ·repeat (refine uP.setCell ?_ (by simp<;>omega) _)
  exact uP.refl _ _
theorem pJ(xs:List aG){A:Option Addr}{c:Nat}{b1}(w:World)(hx:T1 w (.sl xs.length (xs.flatMap aG.enc)) b1 (.slice A xs.length c))(hs:xs.length≤1048576∧∀y∈xs,aG.small y):
  Calls Tryz.prog 7 #[.slice A xs.length c] w fun e w'=>∃A' c' bs,e=.returned (.slice A' xs.length c')∧Below w.heap.size w w'∧T1 w' (.sl xs.length (xs.flatMap aG.enc)) bs (.slice A' xs.length c')∧Own w.heap.size w' bs:=by
 have hs1:=Lib.hid hs;have hn':xs.length≤1048576:=hs.1;clear hs;have hn:Hid (xs.length=xs.length):=rfl;generalize hl:xs.length=n at hx hn' hn ⊢
 replace hn:Hid (xs.length=n):=hl
 clear hl;obtain⟨M,hms,hmk,hsz'⟩:=oW (P:=Tryz.prog) (t:=29) (e:=32) (s:=1) (by kernel_rfl) Tryz.underlying29 hn';have hsz:=hsz';have Hms:=Lib.hid hms;clear hsz' hms
 go_enter Tryz.func7,Tryz.ntmps7
 go_wp2_with fail
 go_loopw [4] (fun i w'=>∃k:Nat,k≤n∧i=.int .i64 k∧Below w.heap.size w w'∧∃bs us,fZ w' w.heap.size 32 n 1 us∧us.length=k*1∧TN w' ((xs.take k).flatMap aG.enc) bs us∧Own (w.heap.size+1) w' bs) (fun i _=>n-(intOf i).toNat)
 case atStart=>exact⟨0,by omega,rfl,(Below.refl _ _).alloc (Nat.le_refl _) _,[],[],fZ.new _ _ 32 n 1 Hms.out,by simp,by simpa using TN.done,Own.nil _ _⟩
 case round=>
  obtain⟨k,hk,rfl,hb,bs,us,hrow,hul,ht,ho⟩:=hrel
  by_cases hlt:k<n
  ·obtain⟨ba,oa,x,Ax0,cx0,px0,rfl,hba,hxk,x0,tx0,lx0,mx0⟩:=aG.lW (hx.below hb) hn.out hlt;have nx:=aG.oZ (w:=wr) (x:=x) tx0;have hul':=Lib.hid hul;clear hul
   go_wp2_with fail
   refine(oF x _ nx (hs1.out.2 x (List.mem_of_getElem? hxk.out))).mono ?_;rintro e w1 ⟨vs,ds,rfl,hb1,hy,oy⟩;have hvl:vs.toArray.size=1:=by have:=hy.length;simpa[aG.enc]using this
   have hv1:vs.all (·.oneCell')=true:=hy.CS;have hT:=TN.append.2 ⟨bs,_,us,vs,rfl,rfl,ht.below hb1,hy⟩;have hO:Own (w.heap.size+1) w1 (bs++ds):=Own.append (ho.below hb1) ho.lt oy (by have:=hrow.lt;omega)
   go_wp2_with (refine iQ rfl 32 (.tmp 21) (.tmp 20) rfl w.heap.size 32 n 1 k us (.agg vs.toArray) (by first|rfl|(rw[Nat.mul_one];rfl)) rfl (hrow.below hb1) hul'.out hlt hsz.h hvl (by simpa[Value.cells]using hv1) ?_;intro w2 hr2 hb2 hs2 ho2)
   have hbt:But w.heap.size w1 w2:=⟨hb2.os,hb2.tape,hb2.output,hb2.size,fun j _ hj=>ho2 j hj⟩
   go_roundw
   case rel=>exact⟨k+1,by omega,by go_num,(hb.trans (hb1.mono hb.size)).trans hb2,_,_,hr2,by have:=hvl;simp[hul'.out,Value.cells,Nat.add_mul]at this ⊢;omega,by rw[nR aG.enc hxk];exact hT.but hbt (hO.vS (by omega)),hO.but hbt (hO.vS (by omega))⟩
   case measure=>simp[intOf];omega
  ·have:k=n:=by omega
   subst this
   go_wp2_with fail
   go_ret;rw[qN (by rw[hn.out];exact Nat.le_refl _)]at ht;rcases Nat.eq_zero_or_pos k with h0|h0
   ·subst h0;have:xs=[]:=List.eq_nil_of_length_eq_zero hn.out;subst this;exact⟨_,_,[],rfl,hb,T1.empty _,Own.nil _ _⟩
   ·obtain⟨cur,t',hg⟩:=hrow.own;exact⟨_,_,w.heap.size::bs,rfl,hb,T1.zN hrow h0 (by unfold maxLen;omega) ht,Own.cons hg (Nat.le_refl _) ho⟩
theorem Dh(xs:List Int)(L:Int){A:Option Addr}{c:Nat}{b1}(w:World)(hx:T1 w (.sl xs.length (xs.flatMap aT)) b1 (.slice A xs.length c))(hn':xs.length≤maxLen)(hL0:0≤L)(hL1:L≤1048576):
  Calls Tryz.prog 72 #[.slice A xs.length c,.int .i64 L] w (wF L (xs.length≤1048576) (qh (fun _=>0) xs) w):=by
 unfold maxLen at hn'
 by_cases hneg:L-(xs.length:Int)<0
 ·generalize xs.length=n at*;clear hx
  go_enter Tryz.func72,Tryz.ntmps72
  go_wp2_with fail
  go_ret;exact⟨Below.refl _ _,_,rfl,.inl rfl⟩
 ·have HS:Hid (xs.length≤1048576):=Lib.hid (by omega);obtain⟨n,hn⟩:∃n,xs.length=n:=⟨_,rfl⟩;rw[hn]at hx hneg hn' ⊢;have Hn:=Lib.hid hn;clear hx hn
  go_enter Tryz.func72,Tryz.ntmps72
  go_wp2_with fail
  go_ret;exact⟨Below.refl _ _,_,rfl,.inr ⟨by omega,by rw[Fp,Hn.out],by rw[←Hn.out];exact HS.out⟩⟩
theorem E8(xs:List aC)(L:Int){A:Option Addr}{c:Nat}{b1}(w:World)(hx:T1 w (.sl xs.length (xs.flatMap aC.enc)) b1 (.slice A xs.length c))(hn':xs.length≤maxLen)(hL0:0≤L)(hL1:L≤1048576):
  Calls Tryz.prog 73 #[.slice A xs.length c,.int .i64 L] w (wF L (xs.length≤1048576∧∀y∈xs,aC.small y) (qh (fun _=>0) xs) w):=by
 unfold maxLen at hn'
 by_cases hneg:L-(xs.length:Int)<0
 ·generalize xs.length=n at*;clear hx
  go_enter Tryz.func73,Tryz.ntmps73
  go_wp2_with fail
  go_ret;exact⟨Below.refl _ _,_,rfl,.inl rfl⟩
 ·have HS:Hid (xs.length≤1048576∧∀y∈xs,aC.small y):=Lib.hid ⟨by omega,fun y _=>by unfold aC.small;trivial⟩;obtain⟨n,hn⟩:∃n,xs.length=n:=⟨_,rfl⟩;rw[hn]at hx hneg hn' ⊢;have Hn:=Lib.hid hn;clear hx hn
  go_enter Tryz.func73,Tryz.ntmps73
  go_wp2_with fail
  go_ret;exact⟨Below.refl _ _,_,rfl,.inr ⟨by omega,by rw[Fp,Hn.out],by rw[←Hn.out];exact HS.out⟩⟩
theorem E5(x:ay)(L:Int){b us}(w:World)(hx:TN w x.enc b us)(hm3:x.data.length≤maxLen)(hm4:x.aD.length≤maxLen)(hL0:0≤L)(hL1:L≤1048576):
  Calls Tryz.prog 46 #[.agg us.toArray,.int .i64 L] w (wF L x.small x.wt w):=by
 obtain⟨Ax3,cx3,bx3,Ax4,cx4,bx4,rfl,rfl,tx3,lx3,mx3,tx4,lx4,mx4⟩:=ay.us hx;clear lx3 mx3 lx4 mx4 hx;have B0:∀S,Below w.heap.size w (w.alloc S):=fun _=>(Below.refl _ _).alloc (Nat.le_refl _) _
 go_enter Tryz.func46,Tryz.ntmps46
 go_wp2_with fail
 refine(Dh x.data L _ (tx3.below (B0 _)) hm3 (by omega) (by omega)).mono ?_;rintro e w1 ⟨hb1,r1,rfl,h1⟩;have z1:w.heap.size<w1.heap.size:=by have:=hb1.size;(try simp at this);omega
 have B1:Below w.heap.size w w1:=Below.trans (B0 _) (hb1.mono (by first|omega|(simp;done)|(simp;omega)));have u1:=(hb1.block w.heap.size (by simp<;>omega)).trans (heap_alloc_new w _);have q1_0:=cell_of_row _ _ 0 _ _ _ u1;have q1_1:=cell_of_row _ _ 1 _ _ _ u1;have q1_2:=cell_of_row _ _ 2 _ _ _ u1;have q1_3:=cell_of_row _ _ 3 _ _ _ u1;have q1_4:=cell_of_row _ _ 4 _ _ _ u1;simp only[List.getElem?_toArray,List.getElem?_cons_zero,List.getElem?_cons_succ]at q1_0 q1_1 q1_2 q1_3 q1_4;clear hb1;rcases h1 with rfl|⟨a1,c1,s1⟩
 ·go_wp2_with fail
  go_ret;exact⟨B1,_,rfl,.inl rfl⟩
 have hd1:decide (r1<0)=false:=by simp;omega
 have S1:=Lib.hid s1;have e1:r1≤L:=by omega
 have C1:=Lib.hid c1;clear s1 c1
 go_wp2_with fail
 refine(E8 x.aD r1 _ (tx4.below B1) hm4 (by omega) (by omega)).mono ?_;rintro e w2 ⟨hb2,r2,rfl,h2⟩;have z2:w.heap.size<w2.heap.size:=by have:=hb2.size;(try simp at this);omega
 have B2:Below w.heap.size w w2:=Below.trans B1 (hb2.mono (by first|omega|(simp;done)|(simp;omega)));have u2:=(hb2.block w.heap.size (by omega)).trans u1;have q2_0:=cell_of_row _ _ 0 _ _ _ u2;have q2_1:=cell_of_row _ _ 1 _ _ _ u2;have q2_2:=cell_of_row _ _ 2 _ _ _ u2;have q2_3:=cell_of_row _ _ 3 _ _ _ u2;have q2_4:=cell_of_row _ _ 4 _ _ _ u2;simp only[List.getElem?_toArray,List.getElem?_cons_zero,List.getElem?_cons_succ]at q2_0 q2_1 q2_2 q2_3 q2_4;clear u1 q1_0 q1_1 q1_2 q1_3 q1_4;clear hb2;rcases h2 with rfl|⟨a2,c2,s2⟩
 ·go_wp2_with fail
  go_ret;exact⟨B2,_,rfl,.inl rfl⟩
 have hd2:decide (r2<0)=false:=by simp;omega
 have S2:=Lib.hid s2;have e2:r2≤r1:=by omega
 have C2:=Lib.hid c2;clear s2 c2
 go_wp2_with fail
 go_ret;exact⟨B2,_,rfl,.inr ⟨by omega,by unfold ay.wt;have:=C1.out;have:=C2.out;omega,⟨S1.out,S2.out⟩⟩⟩
theorem Df(xs:List ay)(L:Int){A:Option Addr}{c:Nat}{b1}(w:World)(hx:T1 w (.sl xs.length (xs.flatMap ay.enc)) b1 (.slice A xs.length c))(hn':xs.length≤maxLen)(hL0:0≤L)(hL1:L≤1048576):
  Calls Tryz.prog 20 #[.slice A xs.length c,.int .i64 L] w (wF L (xs.length≤1048576∧∀y∈xs,ay.small y) (qh ay.wt xs) w):=by
 unfold maxLen at hn'
 by_cases hneg:L-(xs.length:Int)<0
 ·generalize xs.length=n at*;clear hx
  go_enter Tryz.func20,Tryz.ntmps20
  go_wp2_with fail
  go_ret;exact⟨Below.refl _ _,_,rfl,.inl rfl⟩
 ·have hn0:xs.length≤1048576:=by omega
  obtain⟨n,hn⟩:∃n,xs.length=n:=⟨_,rfl⟩;rw[hn]at hx hneg hn' hn0 ⊢;have Hn:Hid (xs.length=n):=hn;clear hn hn'
  go_enter Tryz.func20,Tryz.ntmps20
  go_wp2_with fail
  go_loopw [1,5] (fun l i w'=>∃(r:Int) (k:Nat),l=.int .i64 r∧0≤r∧Hid (r=L-(n+((xs.take k).map ay.wt).sum:Nat))∧r≤L∧k≤n∧i=.int .i64 k∧Hid (∀y∈xs.take k,y.small)∧Below w.heap.size w w') (fun _ i _=>n-(intOf i).toNat)
  case atStart=>exact⟨_,0,rfl,by omega,Lib.hid (by simp),by omega,by omega,rfl,Lib.hid (by simp),Below.refl _ _⟩
  case round=>
   obtain⟨r,k,rfl,hr0,hrw,hr1,hk,rfl,ht,hb⟩:=hrel
   by_cases hlt:k<n
   ·obtain⟨ba,oa,x,Ax3,cx3,px3,Ax4,cx4,px4,rfl,hba,hxk,x0,x1,x2,x3,x4,tx3,lx3,mx3,tx4,lx4,mx4⟩:=ay.lW (hx.below hb) Hn.out hlt;have nx:=ay.oZ (w:=wr) (x:=x) tx3 tx4
    go_wp2_with fail
    refine(E5 x r _ nx (Nat.le_trans lx3 mx3) (Nat.le_trans lx4 mx4) hr0 (by omega)).mono ?_;rintro e w1 ⟨hb1,r1,rfl,h⟩;rcases h with rfl|⟨h0,h1',h2⟩
    ·go_wp2_with fail
     go_ret;exact⟨hb.trans (hb1.mono hb.size),_,rfl,.inl rfl⟩
    ·have hd:decide (r1<0)=false:=by simp;omega
     have h1:r1≤r:=by omega
     have H1:=Lib.hid h1';clear h1';have H2:=Lib.hid h2;clear h2
     go_wp2_with fail
     go_roundw
     case rel=>exact⟨_,k+1,rfl,h0,Lib.hid (by rw[IQ hxk.out,H1.out,hrw.out];omega),by omega,by omega,by go_num,Lib.hid (tL ht.out hxk.out H2.out),hb.trans (hb1.mono hb.size)⟩
     case measure=>simp[intOf];omega
   ·have:k=n:=by omega
    subst this
    go_wp2_with fail
    go_ret;have ht':=ht.out;have hrw':=hrw.out;rw[qN (by rw[Hn.out];exact Nat.le_refl _)]at ht' hrw';rw[←Hn.out]at hrw';exact⟨hb,_,rfl,.inr ⟨hr0,hrw',⟨hn0,ht'⟩⟩⟩
theorem BG(x:aG)(L:Int){b us}(w:World)(hx:TN w x.enc b us)(hm0:x.agents.length≤maxLen)(hL0:0≤L)(hL1:L≤1048576):
  Calls Tryz.prog 5 #[.agg us.toArray,.int .i64 L] w (wF L x.small x.wt w):=by
 obtain⟨Ax0,cx0,bx0,rfl,rfl,tx0,lx0,mx0⟩:=aG.us hx;clear lx0 mx0 hx;have B0:∀S,Below w.heap.size w (w.alloc S):=fun _=>(Below.refl _ _).alloc (Nat.le_refl _) _
 go_enter Tryz.func5,Tryz.ntmps5
 go_wp2_with fail
 refine(Df x.agents L _ (tx0.below (B0 _)) hm0 (by omega) (by omega)).mono ?_;rintro e w1 ⟨hb1,r1,rfl,h1⟩;have z1:w.heap.size<w1.heap.size:=by have:=hb1.size;(try simp at this);omega
 have B1:Below w.heap.size w w1:=Below.trans (B0 _) (hb1.mono (by first|omega|(simp;done)|(simp;omega)));have u1:=(hb1.block w.heap.size (by simp<;>omega)).trans (heap_alloc_new w _);have q1_0:=cell_of_row _ _ 0 _ _ _ u1;simp only[List.getElem?_toArray,List.getElem?_cons_zero,List.getElem?_cons_succ]at q1_0;clear hb1;rcases h1 with rfl|⟨a1,c1,s1⟩
 ·go_wp2_with fail
  go_ret;exact⟨B1,_,rfl,.inl rfl⟩
 have hd1:decide (r1<0)=false:=by simp;omega
 have S1:=Lib.hid s1;have e1:r1≤L:=by omega
 have C1:=Lib.hid c1;clear s1 c1
 go_wp2_with fail
 go_ret;exact⟨B1,_,rfl,.inr ⟨by omega,by unfold aG.wt;have:=C1.out;omega,S1.out⟩⟩
theorem Gl(xs:List aG)(L:Int){A:Option Addr}{c:Nat}{b1}(w:World)(hx:T1 w (.sl xs.length (xs.flatMap aG.enc)) b1 (.slice A xs.length c))(hn':xs.length≤maxLen)(hL0:0≤L)(hL1:L≤1048576):
  Calls Tryz.prog 4 #[.slice A xs.length c,.int .i64 L] w (wF L (xs.length≤1048576∧∀y∈xs,aG.small y) (qh aG.wt xs) w):=by
 unfold maxLen at hn'
 by_cases hneg:L-(xs.length:Int)<0
 ·generalize xs.length=n at*;clear hx
  go_enter Tryz.func4,Tryz.ntmps4
  go_wp2_with fail
  go_ret;exact⟨Below.refl _ _,_,rfl,.inl rfl⟩
 ·have hn0:xs.length≤1048576:=by omega
  obtain⟨n,hn⟩:∃n,xs.length=n:=⟨_,rfl⟩;rw[hn]at hx hneg hn' hn0 ⊢;have Hn:Hid (xs.length=n):=hn;clear hn hn'
  go_enter Tryz.func4,Tryz.ntmps4
  go_wp2_with fail
  go_loopw [1,5] (fun l i w'=>∃(r:Int) (k:Nat),l=.int .i64 r∧0≤r∧Hid (r=L-(n+((xs.take k).map aG.wt).sum:Nat))∧r≤L∧k≤n∧i=.int .i64 k∧Hid (∀y∈xs.take k,y.small)∧Below w.heap.size w w') (fun _ i _=>n-(intOf i).toNat)
  case atStart=>exact⟨_,0,rfl,by omega,Lib.hid (by simp),by omega,by omega,rfl,Lib.hid (by simp),Below.refl _ _⟩
  case round=>
   obtain⟨r,k,rfl,hr0,hrw,hr1,hk,rfl,ht,hb⟩:=hrel
   by_cases hlt:k<n
   ·obtain⟨ba,oa,x,Ax0,cx0,px0,rfl,hba,hxk,x0,tx0,lx0,mx0⟩:=aG.lW (hx.below hb) Hn.out hlt;have nx:=aG.oZ (w:=wr) (x:=x) tx0
    go_wp2_with fail
    refine(BG x r _ nx (Nat.le_trans lx0 mx0) hr0 (by omega)).mono ?_;rintro e w1 ⟨hb1,r1,rfl,h⟩;rcases h with rfl|⟨h0,h1',h2⟩
    ·go_wp2_with fail
     go_ret;exact⟨hb.trans (hb1.mono hb.size),_,rfl,.inl rfl⟩
    ·have hd:decide (r1<0)=false:=by simp;omega
     have h1:r1≤r:=by omega
     have H1:=Lib.hid h1';clear h1';have H2:=Lib.hid h2;clear h2
     go_wp2_with fail
     go_roundw
     case rel=>exact⟨_,k+1,rfl,h0,Lib.hid (by rw[IQ hxk.out,H1.out,hrw.out];omega),by omega,by omega,by go_num,Lib.hid (tL ht.out hxk.out H2.out),hb.trans (hb1.mono hb.size)⟩
     case measure=>simp[intOf];omega
   ·have:k=n:=by omega
    subst this
    go_wp2_with fail
    go_ret;have ht':=ht.out;have hrw':=hrw.out;rw[qN (by rw[Hn.out];exact Nat.le_refl _)]at ht' hrw';rw[←Hn.out]at hrw';exact⟨hb,_,rfl,.inr ⟨hr0,hrw',⟨hn0,ht'⟩⟩⟩
end Go.Proofs.YtjpaeopdljfjpaaGreat
