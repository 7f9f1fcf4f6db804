
/- The helpers of the statements for these types: equal, copied, counted. Printed by gen_fam.py. -/
import Derived.Test.YtdpclbjjmhkgiaaProg
import Derived.Test.YtdpclbjjmhkgiaaValid
set_option maxHeartbeats 2000000
set_option linter.unusedSimpArgs false
set_option linter.unusedVariables false
namespace Go.Proofs.Ytdpclbjjmhkgiaa
open Go Go.RowKit Go.Proofs Go.Tr
theorem Ar(x y:aF){b1 b2 us vs}(w:World)(hx:TN w x.enc b1 us)(hy:TN w y.enc b2 vs):
  Calls Try.prog 84 #[.agg us.toArray,.agg vs.toArray] w fun e w'=>e=.returned (.bool (rO x y))∧Below w.heap.size w w':=by
 obtain⟨rfl,rfl⟩:=aF.us hx;obtain⟨rfl,rfl⟩:=aF.us hy;have HB:=((Below.refl w.heap.size w).alloc (Nat.le_refl _) (.cells #[.int .i64 x.agent,.int .i64 x.slot] 60)).alloc (by simp) (.cells #[.int .i64 y.agent,.int .i64 y.slot] 60)
 go_enter Try.func84,Try.ntmps84
 cases hq0:(x.agent !=y.agent)
 case true=>
  go_wp2_with fail
  go_ret;exact⟨by rw[lV (fun e=>by rw[e]at hq0;simp at hq0)];rfl,HB⟩
 cases hq1:(x.slot !=y.slot)
 case true=>
  go_wp2_with fail
  go_ret;exact⟨by rw[lV (fun e=>by rw[e]at hq1;simp at hq1)];rfl,HB⟩
 go_wp2_with fail
 go_ret;refine⟨?_,HB⟩;have hxy:x=y:=aF.DV (show x.agent=y.agent by simpa using hq0) (show x.slot=y.slot by simpa using hq1);rw[sw hxy];rfl
theorem DN(xs ys:List Int){A B:Option Addr}{c d:Nat}{b1 b2}(w:World)(hx:T1 w (.sl xs.length (xs.flatMap bL)) b1 (.slice A xs.length c))(hy:T1 w (.sl ys.length (ys.flatMap bL)) b2 (.slice B ys.length d))(hn':xs.length≤maxLen)(hm':ys.length≤maxLen):
  Calls Try.prog 73 #[.slice A xs.length c,.slice B ys.length d] w fun e w'=>e=.returned (.bool (rO xs ys))∧Below w.heap.size w w':=by
 unfold maxLen at hn' hm'
 by_cases hnm:xs.length=ys.length
 ·obtain⟨n,hn0⟩:∃n,ys.length=n:=⟨_,rfl⟩;rw[hn0]at hnm;have hn:Hid (xs.length=n):=hnm;have hm:Hid (ys.length=n):=hn0;rw[hnm]at hx hn' ⊢;rw[hn0]at hy hm' ⊢;clear hnm hn0
  go_enter Try.func73,Try.ntmps73
  go_wp2_with fail
  go_loopw [5] (fun i w'=>∃k:Nat,k≤n∧i=.int .i64 k∧Hid (xs.take k=ys.take k)∧Below w.heap.size w w') (fun i _=>n-(intOf i).toNat)
  case atStart=>exact⟨0,Nat.zero_le _,rfl,rfl,Below.refl _ _⟩
  case round=>
   obtain⟨k,hk,rfl,ht,hb⟩:=hrel
   by_cases hlt:k<n
   ·obtain⟨ba,oa,x,rfl,_,hba,hxk,x0⟩:=KP (hx.below hb) hn.out hlt;obtain⟨bb,ob,y,rfl,_,hbb,hyk,y0⟩:=KP (hy.below hb) hm.out hlt;cases hd:(x !=y)
    case true=>
     go_wp2_with fail
     go_quiet (fail)
     go_wp2_with fail
     go_ret;exact⟨by rw[lV (KY hxk hyk (by rintro rfl;simp at hd))];rfl,hb.drewN _⟩
    go_wp2_with fail
    go_quiet (fail)
    go_wp2_with fail
    exact⟨⟨k+1,by omega,by go_num,nQ ht hxk hyk (by simpa using hd),hb.drewN _⟩,by simp[intOf];omega⟩
   ·have:k=n:=by omega
    subst this
    go_wp2_with fail
    go_ret;exact⟨by rw[sw (take_eq_all ht hn hm)];rfl,hb⟩
 ·have hne:=lV (EJ (xs:=xs) (ys:=ys) rfl rfl hnm);generalize xs.length=n at*;generalize ys.length=m at*
  go_enter Try.func73,Try.ntmps73
  go_wp2_with fail
  go_ret;exact⟨by rw[hne];rfl,Below.refl _ _⟩
theorem Gi(xs ys:List aF){A B:Option Addr}{c d:Nat}{b1 b2}(w:World)(hx:T1 w (.sl xs.length (xs.flatMap aF.enc)) b1 (.slice A xs.length c))(hy:T1 w (.sl ys.length (ys.flatMap aF.enc)) b2 (.slice B ys.length d))(hn':xs.length≤maxLen)(hm':ys.length≤maxLen):
  Calls Try.prog 74 #[.slice A xs.length c,.slice B ys.length d] w fun e w'=>e=.returned (.bool (rO xs ys))∧Below w.heap.size w w':=by
 unfold maxLen at hn' hm'
 by_cases hnm:xs.length=ys.length
 ·obtain⟨n,hn0⟩:∃n,ys.length=n:=⟨_,rfl⟩;rw[hn0]at hnm;have hn:Hid (xs.length=n):=hnm;have hm:Hid (ys.length=n):=hn0;rw[hnm]at hx hn' ⊢;rw[hn0]at hy hm' ⊢;clear hnm hn0
  go_enter Try.func74,Try.ntmps74
  go_wp2_with fail
  go_loopw [5] (fun i w'=>∃k:Nat,k≤n∧i=.int .i64 k∧Hid (xs.take k=ys.take k)∧Below w.heap.size w w') (fun i _=>n-(intOf i).toNat)
  case atStart=>exact⟨0,Nat.zero_le _,rfl,rfl,Below.refl _ _⟩
  case round=>
   obtain⟨k,hk,rfl,ht,hb⟩:=hrel
   by_cases hlt:k<n
   ·obtain⟨ba,oa,x,rfl,hba,hxk,x0,x1⟩:=aF.zw (hx.below hb) hn.out hlt;obtain⟨bb,ob,y,rfl,hbb,hyk,y0,y1⟩:=aF.zw (hy.below hb) hm.out hlt;have nx:=aF.GU (w:=wr) (x:=x);have ny:=aF.GU (w:=wr) (x:=y);cases hd:rO x y
    case false=>
     have hcall:=fun e:aU wr=>Ar x y _ (nx.below e.h) (ny.below e.h)
     rw[hd]at hcall;have HC:=Lib.hid hcall;clear hcall
     go_wp2_with fail
     have hext:=aU.cell (w:=wr);refine fT (by kernel_rfl) (by kernel_rfl) ?_
     repeat (go_big_quiet_step (exact Calls.nV (HC.out _)))
     refine wpQuiet_nil ?_;rintro _ ⟨e,rfl⟩;have hbe:=hb.trans (e.h.mono hb.size);clear hext
     go_wp2_with fail
     go_ret;exact⟨by rw[lV (KY hxk hyk (DR hd))];rfl,hbe⟩
    have hcall:=fun e:aU wr=>Ar x y _ (nx.below e.h) (ny.below e.h)
    rw[hd]at hcall;have HC:=Lib.hid hcall;clear hcall
    go_wp2_with fail
    have hext:=aU.cell (w:=wr);refine fT (by kernel_rfl) (by kernel_rfl) ?_
    repeat (go_big_quiet_step (exact Calls.nV (HC.out _)))
    refine wpQuiet_nil ?_;rintro _ ⟨e,rfl⟩;have hbe:=hb.trans (e.h.mono hb.size);clear hext
    go_wp2_with fail
    exact⟨⟨k+1,by omega,by go_num,nQ ht hxk hyk (Au hd),hbe⟩,by simp[intOf];omega⟩
   ·have:k=n:=by omega
    subst this
    go_wp2_with fail
    go_ret;exact⟨by rw[sw (take_eq_all ht hn hm)];rfl,hb⟩
 ·have hne:=lV (EJ (xs:=xs) (ys:=ys) rfl rfl hnm);generalize xs.length=n at*;generalize ys.length=m at*
  go_enter Try.func74,Try.ntmps74
  go_wp2_with fail
  go_ret;exact⟨by rw[hne];rfl,Below.refl _ _⟩
theorem yY(x y:au){b1 b2 us vs}(w:World)(hx:TN w x.enc b1 us)(hy:TN w y.enc b2 vs):
  Calls Try.prog 46 #[.agg us.toArray,.agg vs.toArray] w fun e w'=>e=.returned (.bool (rO x y))∧Below w.heap.size w w':=by
 obtain⟨Ax3,cx3,bx3,Ax4,cx4,bx4,rfl,rfl,tx3,lx3,mx3,tx4,lx4,mx4⟩:=au.us hx;obtain⟨Ay3,cy3,by3,Ay4,cy4,by4,rfl,rfl,ty3,ly3,my3,ty4,ly4,my4⟩:=au.us hy;have HB:=((Below.refl w.heap.size w).alloc (Nat.le_refl _) (.cells #[.int .i64 x.kind,.int .i64 x.level,.int .i64 x.value,.slice Ax3 x.data.length cx3,.slice Ax4 x.aH.length cx4] 64)).alloc (by simp) (.cells #[.int .i64 y.kind,.int .i64 y.level,.int .i64 y.value,.slice Ay3 y.data.length cy3,.slice Ay4 y.aH.length cy4] 64)
 go_enter Try.func46,Try.ntmps46
 cases hq0:(x.kind !=y.kind)
 case true=>
  go_wp2_with fail
  go_ret;exact⟨by rw[lV (fun e=>by rw[e]at hq0;simp at hq0)];rfl,HB⟩
 cases hq1:(x.level !=y.level)
 case true=>
  go_wp2_with fail
  go_ret;exact⟨by rw[lV (fun e=>by rw[e]at hq1;simp at hq1)];rfl,HB⟩
 cases hq2:(x.value !=y.value)
 case true=>
  go_wp2_with fail
  go_ret;exact⟨by rw[lV (fun e=>by rw[e]at hq2;simp at hq2)];rfl,HB⟩
 have sx3:=tx3.below HB;have sy3:=ty3.below HB
 go_wp2_with fail
 refine(DN x.data y.data _ sx3 sy3 (Nat.le_trans lx3 mx3) (Nat.le_trans ly3 my3)).mono ?_;rintro e w1 ⟨rfl,hb1⟩;have B1:=HB.trans (hb1.mono HB.size);obtain⟨hc1,hf1⟩:=ND hb1;have hz1:w.heap.size+1<w1.heap.size:=by have:=hb1.size;simp at this;omega
 have ha1:=fun o=>hc1 w.heap.size o (by first|(simp;done)|(simp;omega))
 have he1:=fun o=>hc1 (w.heap.size+1) o (by first|(simp;done)|(simp;omega))
 have hg1:=fun o=>hf1 w.heap.size o (by first|(simp;done)|(simp;omega))
 have hi1:=fun o=>hf1 (w.heap.size+1) o (by first|(simp;done)|(simp;omega))
 clear hc1 hf1;clear hb1;cases hq3:rO x.data y.data
 case false=>
  go_wp2_with fail
  go_ret;exact⟨by rw[lV (fun e=>by rw[e]at hq3;exact absurd hq3 (by simp[lD]))];rfl,B1⟩
 have sx4:=tx4.below B1;have sy4:=ty4.below B1
 go_wp2_with fail
 refine(Gi x.aH y.aH _ sx4 sy4 (Nat.le_trans lx4 mx4) (Nat.le_trans ly4 my4)).mono ?_;rintro e w2 ⟨rfl,hb2⟩;have B2:=B1.trans (hb2.mono B1.size);obtain⟨hc2,hf2⟩:=ND hb2;have hz2:w.heap.size+1<w2.heap.size:=by have:=hb2.size;omega
 have ha2:=fun o=>(hc2 w.heap.size o (by omega)).trans (ha1 o)
 have he2:=fun o=>(hc2 (w.heap.size+1) o (by omega)).trans (he1 o)
 have hg2:=fun o=>(hf2 w.heap.size o (by omega)).trans (hg1 o)
 have hi2:=fun o=>(hf2 (w.heap.size+1) o (by omega)).trans (hi1 o)
 clear hc2 hf2;clear hb2;cases hq4:rO x.aH y.aH
 case false=>
  go_wp2_with fail
  go_ret;exact⟨by rw[lV (fun e=>by rw[e]at hq4;exact absurd hq4 (by simp[lD]))];rfl,B2⟩
 go_wp2_with fail
 go_ret;refine⟨?_,B2⟩;have hxy:x=y:=au.DV (show x.kind=y.kind by simpa using hq0) (show x.level=y.level by simpa using hq1) (show x.value=y.value by simpa using hq2) (Au hq3) (Au hq4);rw[sw hxy];rfl
theorem DK(xs ys:List au){A B:Option Addr}{c d:Nat}{b1 b2}(w:World)(hx:T1 w (.sl xs.length (xs.flatMap au.enc)) b1 (.slice A xs.length c))(hy:T1 w (.sl ys.length (ys.flatMap au.enc)) b2 (.slice B ys.length d))(hn':xs.length≤maxLen)(hm':ys.length≤maxLen):
  Calls Try.prog 24 #[.slice A xs.length c,.slice B ys.length d] w fun e w'=>e=.returned (.bool (rO xs ys))∧Below w.heap.size w w':=by
 unfold maxLen at hn' hm'
 by_cases hnm:xs.length=ys.length
 ·obtain⟨n,hn0⟩:∃n,ys.length=n:=⟨_,rfl⟩;rw[hn0]at hnm;have hn:Hid (xs.length=n):=hnm;have hm:Hid (ys.length=n):=hn0;rw[hnm]at hx hn' ⊢;rw[hn0]at hy hm' ⊢;clear hnm hn0
  go_enter Try.func24,Try.ntmps24
  go_wp2_with fail
  go_loopw [5] (fun i w'=>∃k:Nat,k≤n∧i=.int .i64 k∧Hid (xs.take k=ys.take k)∧Below w.heap.size w w') (fun i _=>n-(intOf i).toNat)
  case atStart=>exact⟨0,Nat.zero_le _,rfl,rfl,Below.refl _ _⟩
  case round=>
   obtain⟨k,hk,rfl,ht,hb⟩:=hrel
   by_cases hlt:k<n
   ·obtain⟨ba,oa,x,Ax3,cx3,px3,Ax4,cx4,px4,rfl,hba,hxk,x0,x1,x2,x3,x4,tx3,lx3,mx3,tx4,lx4,mx4⟩:=au.zw (hx.below hb) hn.out hlt;obtain⟨bb,ob,y,Ay3,cy3,py3,Ay4,cy4,py4,rfl,hbb,hyk,y0,y1,y2,y3,y4,ty3,ly3,my3,ty4,ly4,my4⟩:=au.zw (hy.below hb) hm.out hlt;have nx:=au.GU (w:=wr) (x:=x) tx3 tx4;have ny:=au.GU (w:=wr) (x:=y) ty3 ty4;cases hd:rO x y
    case false=>
     have hcall:=fun e:aU wr=>yY x y _ (nx.below e.h) (ny.below e.h)
     rw[hd]at hcall;have HC:=Lib.hid hcall;clear hcall
     go_wp2_with fail
     have hext:=aU.cell (w:=wr);refine fT (by kernel_rfl) (by kernel_rfl) ?_
     repeat (go_big_quiet_step (exact Calls.nV (HC.out _)))
     refine wpQuiet_nil ?_;rintro _ ⟨e,rfl⟩;have hbe:=hb.trans (e.h.mono hb.size);clear hext
     go_wp2_with fail
     go_ret;exact⟨by rw[lV (KY hxk hyk (DR hd))];rfl,hbe⟩
    have hcall:=fun e:aU wr=>yY x y _ (nx.below e.h) (ny.below e.h)
    rw[hd]at hcall;have HC:=Lib.hid hcall;clear hcall
    go_wp2_with fail
    have hext:=aU.cell (w:=wr);refine fT (by kernel_rfl) (by kernel_rfl) ?_
    repeat (go_big_quiet_step (exact Calls.nV (HC.out _)))
    refine wpQuiet_nil ?_;rintro _ ⟨e,rfl⟩;have hbe:=hb.trans (e.h.mono hb.size);clear hext
    go_wp2_with fail
    exact⟨⟨k+1,by omega,by go_num,nQ ht hxk hyk (Au hd),hbe⟩,by simp[intOf];omega⟩
   ·have:k=n:=by omega
    subst this
    go_wp2_with fail
    go_ret;exact⟨by rw[sw (take_eq_all ht hn hm)];rfl,hb⟩
 ·have hne:=lV (EJ (xs:=xs) (ys:=ys) rfl rfl hnm);generalize xs.length=n at*;generalize ys.length=m at*
  go_enter Try.func24,Try.ntmps24
  go_wp2_with fail
  go_ret;exact⟨by rw[hne];rfl,Below.refl _ _⟩
theorem qg(x y:aW){b1 b2 us vs}(w:World)(hx:TN w x.enc b1 us)(hy:TN w y.enc b2 vs):
  Calls Try.prog 8 #[.agg us.toArray,.agg vs.toArray] w fun e w'=>e=.returned (.bool (rO x y))∧Below w.heap.size w w':=by
 obtain⟨Ax0,cx0,bx0,rfl,rfl,tx0,lx0,mx0⟩:=aW.us hx;obtain⟨Ay0,cy0,by0,rfl,rfl,ty0,ly0,my0⟩:=aW.us hy;have HB:=((Below.refl w.heap.size w).alloc (Nat.le_refl _) (.cells #[.slice Ax0 x.agents.length cx0] 25)).alloc (by simp) (.cells #[.slice Ay0 y.agents.length cy0] 25)
 go_enter Try.func8,Try.ntmps8
 have sx0:=tx0.below HB;have sy0:=ty0.below HB
 go_wp2_with fail
 refine(DK x.agents y.agents _ sx0 sy0 (Nat.le_trans lx0 mx0) (Nat.le_trans ly0 my0)).mono ?_;rintro e w1 ⟨rfl,hb1⟩;have B1:=HB.trans (hb1.mono HB.size);obtain⟨hc1,hf1⟩:=ND hb1;have hz1:w.heap.size+1<w1.heap.size:=by have:=hb1.size;simp at this;omega
 have ha1:=fun o=>hc1 w.heap.size o (by first|(simp;done)|(simp;omega))
 have he1:=fun o=>hc1 (w.heap.size+1) o (by first|(simp;done)|(simp;omega))
 have hg1:=fun o=>hf1 w.heap.size o (by first|(simp;done)|(simp;omega))
 have hi1:=fun o=>hf1 (w.heap.size+1) o (by first|(simp;done)|(simp;omega))
 clear hc1 hf1;clear hb1;cases hq0:rO x.agents y.agents
 case false=>
  go_wp2_with fail
  go_ret;exact⟨by rw[lV (fun e=>by rw[e]at hq0;exact absurd hq0 (by simp[lD]))];rfl,B1⟩
 go_wp2_with fail
 go_ret;refine⟨?_,B1⟩;have hxy:x=y:=aW.DV (Au hq0);rw[sw hxy];rfl
theorem vM(xs ys:List aW){A B:Option Addr}{c d:Nat}{b1 b2}(w:World)(hx:T1 w (.sl xs.length (xs.flatMap aW.enc)) b1 (.slice A xs.length c))(hy:T1 w (.sl ys.length (ys.flatMap aW.enc)) b2 (.slice B ys.length d))(hn':xs.length≤maxLen)(hm':ys.length≤maxLen):
  Calls Try.prog 15 #[.slice A xs.length c,.slice B ys.length d] w fun e w'=>e=.returned (.bool (rO xs ys))∧Below w.heap.size w w':=by
 unfold maxLen at hn' hm'
 by_cases hnm:xs.length=ys.length
 ·obtain⟨n,hn0⟩:∃n,ys.length=n:=⟨_,rfl⟩;rw[hn0]at hnm;have hn:Hid (xs.length=n):=hnm;have hm:Hid (ys.length=n):=hn0;rw[hnm]at hx hn' ⊢;rw[hn0]at hy hm' ⊢;clear hnm hn0
  go_enter Try.func15,Try.ntmps15
  go_wp2_with fail
  go_loopw [5] (fun i w'=>∃k:Nat,k≤n∧i=.int .i64 k∧Hid (xs.take k=ys.take k)∧Below w.heap.size w w') (fun i _=>n-(intOf i).toNat)
  case atStart=>exact⟨0,Nat.zero_le _,rfl,rfl,Below.refl _ _⟩
  case round=>
   obtain⟨k,hk,rfl,ht,hb⟩:=hrel
   by_cases hlt:k<n
   ·obtain⟨ba,oa,x,Ax0,cx0,px0,rfl,hba,hxk,x0,tx0,lx0,mx0⟩:=aW.zw (hx.below hb) hn.out hlt;obtain⟨bb,ob,y,Ay0,cy0,py0,rfl,hbb,hyk,y0,ty0,ly0,my0⟩:=aW.zw (hy.below hb) hm.out hlt;have nx:=aW.GU (w:=wr) (x:=x) tx0;have ny:=aW.GU (w:=wr) (x:=y) ty0;cases hd:rO x y
    case false=>
     have hcall:=fun e:aU wr=>qg x y _ (nx.below e.h) (ny.below e.h)
     rw[hd]at hcall;have HC:=Lib.hid hcall;clear hcall
     go_wp2_with fail
     have hext:=aU.cell (w:=wr);refine fT (by kernel_rfl) (by kernel_rfl) ?_
     repeat (go_big_quiet_step (exact Calls.nV (HC.out _)))
     refine wpQuiet_nil ?_;rintro _ ⟨e,rfl⟩;have hbe:=hb.trans (e.h.mono hb.size);clear hext
     go_wp2_with fail
     go_ret;exact⟨by rw[lV (KY hxk hyk (DR hd))];rfl,hbe⟩
    have hcall:=fun e:aU wr=>qg x y _ (nx.below e.h) (ny.below e.h)
    rw[hd]at hcall;have HC:=Lib.hid hcall;clear hcall
    go_wp2_with fail
    have hext:=aU.cell (w:=wr);refine fT (by kernel_rfl) (by kernel_rfl) ?_
    repeat (go_big_quiet_step (exact Calls.nV (HC.out _)))
    refine wpQuiet_nil ?_;rintro _ ⟨e,rfl⟩;have hbe:=hb.trans (e.h.mono hb.size);clear hext
    go_wp2_with fail
    exact⟨⟨k+1,by omega,by go_num,nQ ht hxk hyk (Au hd),hbe⟩,by simp[intOf];omega⟩
   ·have:k=n:=by omega
    subst this
    go_wp2_with fail
    go_ret;exact⟨by rw[sw (take_eq_all ht hn hm)];rfl,hb⟩
 ·have hne:=lV (EJ (xs:=xs) (ys:=ys) rfl rfl hnm);generalize xs.length=n at*;generalize ys.length=m at*
  go_enter Try.func15,Try.ntmps15
  go_wp2_with fail
  go_ret;exact⟨by rw[hne];rfl,Below.refl _ _⟩
end Go.Proofs.Ytdpclbjjmhkgiaa
