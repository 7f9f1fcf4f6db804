
/- The helpers of the statements for these types: equal, copied, counted. Printed by gen_fam.py. -/
import Derived.Test.YtgiceoidjipgmaaGreatProg
import Derived.Test.YtgiceoidjipgmaaGreatDPool
import Derived.Test.YtgiceoidjipgmaaGreatFDbg
set_option maxHeartbeats 2000000
set_option linter.unusedSimpArgs false
set_option linter.unusedVariables false
namespace Go.Proofs.YtgiceoidjipgmaaGreat
open Go Go.RowKit Go.Proofs Go.Tr
theorem kY(x y:aN){b1 b2 us vs}(w:World)(hx:TN w x.enc b1 us)(hy:TN w y.enc b2 vs):
  Calls Tryz.prog 54 #[.agg us.toArray,.agg vs.toArray] w fun e w'=>e=.returned (.bool (ku x y))∧Below w.heap.size w w':=by
 obtain⟨rfl,rfl⟩:=aN.us hx;obtain⟨rfl,rfl⟩:=aN.us hy;have HB:=((Below.refl w.heap.size w).alloc (Nat.le_refl _) (.cells #[.int .i64 x.tag,.int .i64 x.at_] 38)).alloc (by simp) (.cells #[.int .i64 y.tag,.int .i64 y.at_] 38)
 go_enter Tryz.func54,Tryz.ntmps54
 cases hq0:(x.tag !=y.tag)
 case true=>
  go_wp2_with fail
  go_ret;exact⟨by rw[dB (fun e=>by rw[e]at hq0;simp at hq0)];rfl,HB⟩
 cases hq1:(x.at_ !=y.at_)
 case true=>
  go_wp2_with fail
  go_ret;exact⟨by rw[dB (fun e=>by rw[e]at hq1;simp at hq1)];rfl,HB⟩
 go_wp2_with fail
 go_ret;refine⟨?_,HB⟩;have hxy:x=y:=aN.kZ (show x.tag=y.tag by simpa using hq0) (show x.at_=y.at_ by simpa using hq1);rw[iq hxy];rfl
theorem BU(xs ys:List aN){A B:Option Addr}{c d:Nat}{b1 b2}(w:World)(hx:T1 w (.sl xs.length (xs.flatMap aN.enc)) b1 (.slice A xs.length c))(hy:T1 w (.sl ys.length (ys.flatMap aN.enc)) b2 (.slice B ys.length d))(hn':xs.length≤maxLen)(hm':ys.length≤maxLen):
  Calls Tryz.prog 132 #[.slice A xs.length c,.slice B ys.length d] w fun e w'=>e=.returned (.bool (ku xs ys))∧Below w.heap.size w w':=by
 unfold maxLen at hn' hm'
 by_cases hnm:xs.length=ys.length
 ·obtain⟨n,hn0⟩:∃n,ys.length=n:=⟨_,rfl⟩;rw[hn0]at hnm;have hn:Hid (xs.length=n):=hnm;have hm:Hid (ys.length=n):=hn0;rw[hnm]at hx hn' ⊢;rw[hn0]at hy hm' ⊢;clear hnm hn0
  go_enter Tryz.func132,Tryz.ntmps132
  go_wp2_with fail
  go_loopw [5] (fun i w'=>∃k:Nat,k≤n∧i=.int .i64 k∧Hid (xs.take k=ys.take k)∧Below w.heap.size w w') (fun i _=>n-(intOf i).toNat)
  case atStart=>exact⟨0,Nat.zero_le _,rfl,rfl,Below.refl _ _⟩
  case round=>
   obtain⟨k,hk,rfl,ht,hb⟩:=hrel
   by_cases hlt:k<n
   ·obtain⟨ba,oa,x,rfl,hba,hxk,x0,x1⟩:=aN.iT (hx.below hb) hn.out hlt;obtain⟨bb,ob,y,rfl,hbb,hyk,y0,y1⟩:=aN.iT (hy.below hb) hm.out hlt;have nx:=aN.kK (w:=wr) (x:=x);have ny:=aN.kK (w:=wr) (x:=y);cases hd:ku x y
    case false=>
     have hcall:=fun e:bn wr=>kY x y _ (nx.below e.h) (ny.below e.h)
     rw[hd]at hcall;have HC:=Lib.hid hcall;clear hcall
     go_wp2_with fail
     have hext:=bn.cell (w:=wr);refine bG (by kernel_rfl) (by kernel_rfl) ?_
     repeat (go_big_quiet_step (exact Calls.eX (HC.out _)))
     refine wpQuiet_nil ?_;rintro _ ⟨e,rfl⟩;have hbe:=hb.trans (e.h.mono hb.size);clear hext
     go_wp2_with fail
     go_ret;exact⟨by rw[dB (uJ hxk hyk (qA hd))];rfl,hbe⟩
    have hcall:=fun e:bn wr=>kY x y _ (nx.below e.h) (ny.below e.h)
    rw[hd]at hcall;have HC:=Lib.hid hcall;clear hcall
    go_wp2_with fail
    have hext:=bn.cell (w:=wr);refine bG (by kernel_rfl) (by kernel_rfl) ?_
    repeat (go_big_quiet_step (exact Calls.eX (HC.out _)))
    refine wpQuiet_nil ?_;rintro _ ⟨e,rfl⟩;have hbe:=hb.trans (e.h.mono hb.size);clear hext
    go_wp2_with fail
    exact⟨⟨k+1,by omega,by go_num,fU ht hxk hyk (iW hd),hbe⟩,by simp[intOf];omega⟩
   ·have:k=n:=by omega
    subst this
    go_wp2_with fail
    go_ret;exact⟨by rw[iq (take_eq_all ht hn hm)];rfl,hb⟩
 ·have hne:=dB (oO (xs:=xs) (ys:=ys) rfl rfl hnm);generalize xs.length=n at*;generalize ys.length=m at*
  go_enter Tryz.func132,Tryz.ntmps132
  go_wp2_with fail
  go_ret;exact⟨by rw[hne];rfl,Below.refl _ _⟩
theorem vZ(x y:aK){b1 b2 us vs}(w:World)(hx:TN w x.enc b1 us)(hy:TN w y.enc b2 vs):
  Calls Tryz.prog 109 #[.agg us.toArray,.agg vs.toArray] w fun e w'=>e=.returned (.bool (ku x y))∧Below w.heap.size w w':=by
 obtain⟨Ax3,cx3,bx3,Ax4,cx4,bx4,rfl,rfl,tx3,lx3,mx3,tx4,lx4,mx4⟩:=aK.us hx;obtain⟨Ay3,cy3,by3,Ay4,cy4,by4,rfl,rfl,ty3,ly3,my3,ty4,ly4,my4⟩:=aK.us hy;have HB:=((Below.refl w.heap.size w).alloc (Nat.le_refl _) (.cells #[.int .i64 x.kind,.int .i64 x.level,.int .i64 x.value,.slice Ax3 x.data.length cx3,.slice Ax4 x.words.length cx4] 123)).alloc (by simp) (.cells #[.int .i64 y.kind,.int .i64 y.level,.int .i64 y.value,.slice Ay3 y.data.length cy3,.slice Ay4 y.words.length cy4] 123)
 go_enter Tryz.func109,Tryz.ntmps109
 cases hq0:(x.kind !=y.kind)
 case true=>
  go_wp2_with fail
  go_ret;exact⟨by rw[dB (fun e=>by rw[e]at hq0;simp at hq0)];rfl,HB⟩
 cases hq1:(x.level !=y.level)
 case true=>
  go_wp2_with fail
  go_ret;exact⟨by rw[dB (fun e=>by rw[e]at hq1;simp at hq1)];rfl,HB⟩
 cases hq2:(x.value !=y.value)
 case true=>
  go_wp2_with fail
  go_ret;exact⟨by rw[dB (fun e=>by rw[e]at hq2;simp at hq2)];rfl,HB⟩
 have sx3:=tx3.below HB;have sy3:=ty3.below HB
 go_wp2_with fail
 refine(ni x.data y.data _ sx3 sy3 (Nat.le_trans lx3 mx3) (Nat.le_trans ly3 my3)).mono ?_;rintro e w1 ⟨rfl,hb1⟩;have B1:=HB.trans (hb1.mono HB.size);obtain⟨hc1,hf1⟩:=kT hb1;have hz1:w.heap.size+1<w1.heap.size:=by have:=hb1.size;simp at this;omega
 have ha1:=fun o=>hc1 w.heap.size o (by first|(simp;done)|(simp;omega))
 have he1:=fun o=>hc1 (w.heap.size+1) o (by first|(simp;done)|(simp;omega))
 have hg1:=fun o=>hf1 w.heap.size o (by first|(simp;done)|(simp;omega))
 have hi1:=fun o=>hf1 (w.heap.size+1) o (by first|(simp;done)|(simp;omega))
 clear hc1 hf1;clear hb1;cases hq3:ku x.data y.data
 case false=>
  go_wp2_with fail
  go_ret;exact⟨by rw[dB (fun e=>by rw[e]at hq3;exact absurd hq3 (by simp[eG]))];rfl,B1⟩
 have sx4:=tx4.below B1;have sy4:=ty4.below B1
 go_wp2_with fail
 refine(BU x.words y.words _ sx4 sy4 (Nat.le_trans lx4 mx4) (Nat.le_trans ly4 my4)).mono ?_;rintro e w2 ⟨rfl,hb2⟩;have B2:=B1.trans (hb2.mono B1.size);obtain⟨hc2,hf2⟩:=kT hb2;have hz2:w.heap.size+1<w2.heap.size:=by have:=hb2.size;omega
 have ha2:=fun o=>(hc2 w.heap.size o (by omega)).trans (ha1 o)
 have he2:=fun o=>(hc2 (w.heap.size+1) o (by omega)).trans (he1 o)
 have hg2:=fun o=>(hf2 w.heap.size o (by omega)).trans (hg1 o)
 have hi2:=fun o=>(hf2 (w.heap.size+1) o (by omega)).trans (hi1 o)
 clear hc2 hf2;clear hb2;cases hq4:ku x.words y.words
 case false=>
  go_wp2_with fail
  go_ret;exact⟨by rw[dB (fun e=>by rw[e]at hq4;exact absurd hq4 (by simp[eG]))];rfl,B2⟩
 go_wp2_with fail
 go_ret;refine⟨?_,B2⟩;have hxy:x=y:=aK.kZ (show x.kind=y.kind by simpa using hq0) (show x.level=y.level by simpa using hq1) (show x.value=y.value by simpa using hq2) (iW hq3) (iW hq4);rw[iq hxy];rfl
theorem wm(x y:aD){b1 b2 us vs}(w:World)(hx:TN w x.enc b1 us)(hy:TN w y.enc b2 vs):
  Calls Tryz.prog 110 #[.agg us.toArray,.agg vs.toArray] w fun e w'=>e=.returned (.bool (ku x y))∧Below w.heap.size w w':=by
 obtain⟨rfl,rfl⟩:=aD.us hx;obtain⟨rfl,rfl⟩:=aD.us hy;have HB:=((Below.refl w.heap.size w).alloc (Nat.le_refl _) (.cells #[.int .i64 x.a,.int .i64 x.b] 127)).alloc (by simp) (.cells #[.int .i64 y.a,.int .i64 y.b] 127)
 go_enter Tryz.func110,Tryz.ntmps110
 cases hq0:(x.a !=y.a)
 case true=>
  go_wp2_with fail
  go_ret;exact⟨by rw[dB (fun e=>by rw[e]at hq0;simp at hq0)];rfl,HB⟩
 cases hq1:(x.b !=y.b)
 case true=>
  go_wp2_with fail
  go_ret;exact⟨by rw[dB (fun e=>by rw[e]at hq1;simp at hq1)];rfl,HB⟩
 go_wp2_with fail
 go_ret;refine⟨?_,HB⟩;have hxy:x=y:=aD.kZ (show x.a=y.a by simpa using hq0) (show x.b=y.b by simpa using hq1);rw[iq hxy];rfl
theorem BQ(xs ys:List aK){A B:Option Addr}{c d:Nat}{b1 b2}(w:World)(hx:T1 w (.sl xs.length (xs.flatMap aK.enc)) b1 (.slice A xs.length c))(hy:T1 w (.sl ys.length (ys.flatMap aK.enc)) b2 (.slice B ys.length d))(hn':xs.length≤maxLen)(hm':ys.length≤maxLen):
  Calls Tryz.prog 53 #[.slice A xs.length c,.slice B ys.length d] w fun e w'=>e=.returned (.bool (ku xs ys))∧Below w.heap.size w w':=by
 unfold maxLen at hn' hm'
 by_cases hnm:xs.length=ys.length
 ·obtain⟨n,hn0⟩:∃n,ys.length=n:=⟨_,rfl⟩;rw[hn0]at hnm;have hn:Hid (xs.length=n):=hnm;have hm:Hid (ys.length=n):=hn0;rw[hnm]at hx hn' ⊢;rw[hn0]at hy hm' ⊢;clear hnm hn0
  go_enter Tryz.func53,Tryz.ntmps53
  go_wp2_with fail
  go_loopw [5] (fun i w'=>∃k:Nat,k≤n∧i=.int .i64 k∧Hid (xs.take k=ys.take k)∧Below w.heap.size w w') (fun i _=>n-(intOf i).toNat)
  case atStart=>exact⟨0,Nat.zero_le _,rfl,rfl,Below.refl _ _⟩
  case round=>
   obtain⟨k,hk,rfl,ht,hb⟩:=hrel
   by_cases hlt:k<n
   ·obtain⟨ba,oa,x,Ax3,cx3,px3,Ax4,cx4,px4,rfl,hba,hxk,x0,x1,x2,x3,x4,tx3,lx3,mx3,tx4,lx4,mx4⟩:=aK.iT (hx.below hb) hn.out hlt;obtain⟨bb,ob,y,Ay3,cy3,py3,Ay4,cy4,py4,rfl,hbb,hyk,y0,y1,y2,y3,y4,ty3,ly3,my3,ty4,ly4,my4⟩:=aK.iT (hy.below hb) hm.out hlt;have nx:=aK.kK (w:=wr) (x:=x) tx3 tx4;have ny:=aK.kK (w:=wr) (x:=y) ty3 ty4;cases hd:ku x y
    case false=>
     have hcall:=fun e:bn wr=>vZ x y _ (nx.below e.h) (ny.below e.h)
     rw[hd]at hcall;have HC:=Lib.hid hcall;clear hcall
     go_wp2_with fail
     have hext:=bn.cell (w:=wr);refine bG (by kernel_rfl) (by kernel_rfl) ?_
     repeat (go_big_quiet_step (exact Calls.eX (HC.out _)))
     refine wpQuiet_nil ?_;rintro _ ⟨e,rfl⟩;have hbe:=hb.trans (e.h.mono hb.size);clear hext
     go_wp2_with fail
     go_ret;exact⟨by rw[dB (uJ hxk hyk (qA hd))];rfl,hbe⟩
    have hcall:=fun e:bn wr=>vZ x y _ (nx.below e.h) (ny.below e.h)
    rw[hd]at hcall;have HC:=Lib.hid hcall;clear hcall
    go_wp2_with fail
    have hext:=bn.cell (w:=wr);refine bG (by kernel_rfl) (by kernel_rfl) ?_
    repeat (go_big_quiet_step (exact Calls.eX (HC.out _)))
    refine wpQuiet_nil ?_;rintro _ ⟨e,rfl⟩;have hbe:=hb.trans (e.h.mono hb.size);clear hext
    go_wp2_with fail
    exact⟨⟨k+1,by omega,by go_num,fU ht hxk hyk (iW hd),hbe⟩,by simp[intOf];omega⟩
   ·have:k=n:=by omega
    subst this
    go_wp2_with fail
    go_ret;exact⟨by rw[iq (take_eq_all ht hn hm)];rfl,hb⟩
 ·have hne:=dB (oO (xs:=xs) (ys:=ys) rfl rfl hnm);generalize xs.length=n at*;generalize ys.length=m at*
  go_enter Tryz.func53,Tryz.ntmps53
  go_wp2_with fail
  go_ret;exact⟨by rw[hne];rfl,Below.refl _ _⟩
theorem uD(xs ys:List aD){A B:Option Addr}{c d:Nat}{b1 b2}(w:World)(hx:T1 w (.sl xs.length (xs.flatMap aD.enc)) b1 (.slice A xs.length c))(hy:T1 w (.sl ys.length (ys.flatMap aD.enc)) b2 (.slice B ys.length d))(hn':xs.length≤maxLen)(hm':ys.length≤maxLen):
  Calls Tryz.prog 55 #[.slice A xs.length c,.slice B ys.length d] w fun e w'=>e=.returned (.bool (ku xs ys))∧Below w.heap.size w w':=by
 unfold maxLen at hn' hm'
 by_cases hnm:xs.length=ys.length
 ·obtain⟨n,hn0⟩:∃n,ys.length=n:=⟨_,rfl⟩;rw[hn0]at hnm;have hn:Hid (xs.length=n):=hnm;have hm:Hid (ys.length=n):=hn0;rw[hnm]at hx hn' ⊢;rw[hn0]at hy hm' ⊢;clear hnm hn0
  go_enter Tryz.func55,Tryz.ntmps55
  go_wp2_with fail
  go_loopw [5] (fun i w'=>∃k:Nat,k≤n∧i=.int .i64 k∧Hid (xs.take k=ys.take k)∧Below w.heap.size w w') (fun i _=>n-(intOf i).toNat)
  case atStart=>exact⟨0,Nat.zero_le _,rfl,rfl,Below.refl _ _⟩
  case round=>
   obtain⟨k,hk,rfl,ht,hb⟩:=hrel
   by_cases hlt:k<n
   ·obtain⟨ba,oa,x,rfl,hba,hxk,x0,x1⟩:=aD.iT (hx.below hb) hn.out hlt;obtain⟨bb,ob,y,rfl,hbb,hyk,y0,y1⟩:=aD.iT (hy.below hb) hm.out hlt;have nx:=aD.kK (w:=wr) (x:=x);have ny:=aD.kK (w:=wr) (x:=y);cases hd:ku x y
    case false=>
     have hcall:=fun e:bn wr=>wm x y _ (nx.below e.h) (ny.below e.h)
     rw[hd]at hcall;have HC:=Lib.hid hcall;clear hcall
     go_wp2_with fail
     have hext:=bn.cell (w:=wr);refine bG (by kernel_rfl) (by kernel_rfl) ?_
     repeat (go_big_quiet_step (exact Calls.eX (HC.out _)))
     refine wpQuiet_nil ?_;rintro _ ⟨e,rfl⟩;have hbe:=hb.trans (e.h.mono hb.size);clear hext
     go_wp2_with fail
     go_ret;exact⟨by rw[dB (uJ hxk hyk (qA hd))];rfl,hbe⟩
    have hcall:=fun e:bn wr=>wm x y _ (nx.below e.h) (ny.below e.h)
    rw[hd]at hcall;have HC:=Lib.hid hcall;clear hcall
    go_wp2_with fail
    have hext:=bn.cell (w:=wr);refine bG (by kernel_rfl) (by kernel_rfl) ?_
    repeat (go_big_quiet_step (exact Calls.eX (HC.out _)))
    refine wpQuiet_nil ?_;rintro _ ⟨e,rfl⟩;have hbe:=hb.trans (e.h.mono hb.size);clear hext
    go_wp2_with fail
    exact⟨⟨k+1,by omega,by go_num,fU ht hxk hyk (iW hd),hbe⟩,by simp[intOf];omega⟩
   ·have:k=n:=by omega
    subst this
    go_wp2_with fail
    go_ret;exact⟨by rw[iq (take_eq_all ht hn hm)];rfl,hb⟩
 ·have hne:=dB (oO (xs:=xs) (ys:=ys) rfl rfl hnm);generalize xs.length=n at*;generalize ys.length=m at*
  go_enter Tryz.func55,Tryz.ntmps55
  go_wp2_with fail
  go_ret;exact⟨by rw[hne];rfl,Below.refl _ _⟩
theorem zY(x y:bg){b1 b2 us vs}(w:World)(hx:TN w x.enc b1 us)(hy:TN w y.enc b2 vs):
  Calls Tryz.prog 22 #[.agg us.toArray,.agg vs.toArray] w fun e w'=>e=.returned (.bool (ku x y))∧Below w.heap.size w w':=by
 obtain⟨Ax0,cx0,bx0,Ax4,cx4,bx4,rfl,rfl,tx0,lx0,mx0,tx4,lx4,mx4⟩:=bg.us hx;obtain⟨Ay0,cy0,by0,Ay4,cy4,by4,rfl,rfl,ty0,ly0,my0,ty4,ly4,my4⟩:=bg.us hy;have HB:=((Below.refl w.heap.size w).alloc (Nat.le_refl _) (.cells #[.slice Ax0 x.cells.length cx0,.int .i64 x.free,.int .i64 x.root.tag,.int .i64 x.root.at_,.slice Ax4 x.redexes.length cx4] 41)).alloc (by simp) (.cells #[.slice Ay0 y.cells.length cy0,.int .i64 y.free,.int .i64 y.root.tag,.int .i64 y.root.at_,.slice Ay4 y.redexes.length cy4] 41)
 go_enter Tryz.func22,Tryz.ntmps22
 have sx0:=tx0.below HB;have sy0:=ty0.below HB
 go_wp2_with fail
 refine(BQ x.cells y.cells _ sx0 sy0 (Nat.le_trans lx0 mx0) (Nat.le_trans ly0 my0)).mono ?_;rintro e w1 ⟨rfl,hb1⟩;have B1:=HB.trans (hb1.mono HB.size);obtain⟨hc1,hf1⟩:=kT hb1;have hz1:w.heap.size+1<w1.heap.size:=by have:=hb1.size;simp at this;omega
 have ha1:=fun o=>hc1 w.heap.size o (by first|(simp;done)|(simp;omega))
 have he1:=fun o=>hc1 (w.heap.size+1) o (by first|(simp;done)|(simp;omega))
 have hg1:=fun o=>hf1 w.heap.size o (by first|(simp;done)|(simp;omega))
 have hi1:=fun o=>hf1 (w.heap.size+1) o (by first|(simp;done)|(simp;omega))
 clear hc1 hf1;clear hb1;cases hq0:ku x.cells y.cells
 case false=>
  go_wp2_with fail
  go_ret;exact⟨by rw[dB (fun e=>by rw[e]at hq0;exact absurd hq0 (by simp[eG]))];rfl,B1⟩
 cases hq1:(x.free !=y.free)
 case true=>
  go_wp2_with fail
  go_ret;exact⟨by rw[dB (fun e=>by rw[e]at hq1;simp at hq1)];rfl,B1⟩
 have nx2:=fun(W':World)=>aN.kK (w:=W') (x:=x.root)
 have ny2:=fun(W':World)=>aN.kK (w:=W') (x:=y.root)
 go_wp2_with fail
 refine(kY x.root y.root _ (nx2 _) (ny2 _)).mono ?_;rintro e w2 ⟨rfl,hb2⟩;have B2:=B1.trans (hb2.mono B1.size);obtain⟨hc2,hf2⟩:=kT hb2;have hz2:w.heap.size+1<w2.heap.size:=by have:=hb2.size;omega
 have ha2:=fun o=>(hc2 w.heap.size o (by omega)).trans (ha1 o)
 have he2:=fun o=>(hc2 (w.heap.size+1) o (by omega)).trans (he1 o)
 have hg2:=fun o=>(hf2 w.heap.size o (by omega)).trans (hg1 o)
 have hi2:=fun o=>(hf2 (w.heap.size+1) o (by omega)).trans (hi1 o)
 clear hc2 hf2;clear hb2;cases hq2:ku x.root y.root
 case false=>
  go_wp2_with fail
  go_ret;exact⟨by rw[dB (fun e=>by rw[e]at hq2;exact absurd hq2 (by simp[eG]))];rfl,B2⟩
 have sx4:=tx4.below B2;have sy4:=ty4.below B2
 go_wp2_with fail
 refine(uD x.redexes y.redexes _ sx4 sy4 (Nat.le_trans lx4 mx4) (Nat.le_trans ly4 my4)).mono ?_;rintro e w3 ⟨rfl,hb3⟩;have B3:=B2.trans (hb3.mono B2.size);obtain⟨hc3,hf3⟩:=kT hb3;have hz3:w.heap.size+1<w3.heap.size:=by have:=hb3.size;omega
 have ha3:=fun o=>(hc3 w.heap.size o (by omega)).trans (ha2 o)
 have he3:=fun o=>(hc3 (w.heap.size+1) o (by omega)).trans (he2 o)
 have hg3:=fun o=>(hf3 w.heap.size o (by omega)).trans (hg2 o)
 have hi3:=fun o=>(hf3 (w.heap.size+1) o (by omega)).trans (hi2 o)
 clear hc3 hf3;clear hb3;cases hq3:ku x.redexes y.redexes
 case false=>
  go_wp2_with fail
  go_ret;exact⟨by rw[dB (fun e=>by rw[e]at hq3;exact absurd hq3 (by simp[eG]))];rfl,B3⟩
 go_wp2_with fail
 go_ret;refine⟨?_,B3⟩;have hxy:x=y:=bg.kZ (iW hq0) (show x.free=y.free by simpa using hq1) (iW hq2) (iW hq3);rw[iq hxy];rfl
theorem wh(x y:aS){b1 b2 us vs}(w:World)(hx:TN w x.enc b1 us)(hy:TN w y.enc b2 vs):
  Calls Tryz.prog 133 #[.agg us.toArray,.agg vs.toArray] w fun e w'=>e=.returned (.bool (ku x y))∧Below w.heap.size w w':=by
 obtain⟨rfl,rfl⟩:=aS.us hx;obtain⟨rfl,rfl⟩:=aS.us hy;have HB:=((Below.refl w.heap.size w).alloc (Nat.le_refl _) (.cells #[.int .i64 x.a.tag,.int .i64 x.a.at_,.int .i64 x.b.tag,.int .i64 x.b.at_] 99)).alloc (by simp) (.cells #[.int .i64 y.a.tag,.int .i64 y.a.at_,.int .i64 y.b.tag,.int .i64 y.b.at_] 99)
 go_enter Tryz.func133,Tryz.ntmps133
 have nx0:=fun(W':World)=>aN.kK (w:=W') (x:=x.a)
 have ny0:=fun(W':World)=>aN.kK (w:=W') (x:=y.a)
 go_wp2_with fail
 refine(kY x.a y.a _ (nx0 _) (ny0 _)).mono ?_;rintro e w1 ⟨rfl,hb1⟩;have B1:=HB.trans (hb1.mono HB.size);obtain⟨hc1,hf1⟩:=kT hb1;have hz1:w.heap.size+1<w1.heap.size:=by have:=hb1.size;simp at this;omega
 have ha1:=fun o=>hc1 w.heap.size o (by first|(simp;done)|(simp;omega))
 have he1:=fun o=>hc1 (w.heap.size+1) o (by first|(simp;done)|(simp;omega))
 have hg1:=fun o=>hf1 w.heap.size o (by first|(simp;done)|(simp;omega))
 have hi1:=fun o=>hf1 (w.heap.size+1) o (by first|(simp;done)|(simp;omega))
 clear hc1 hf1;clear hb1;cases hq0:ku x.a y.a
 case false=>
  go_wp2_with fail
  go_ret;exact⟨by rw[dB (fun e=>by rw[e]at hq0;exact absurd hq0 (by simp[eG]))];rfl,B1⟩
 have nx1:=fun(W':World)=>aN.kK (w:=W') (x:=x.b)
 have ny1:=fun(W':World)=>aN.kK (w:=W') (x:=y.b)
 go_wp2_with fail
 refine(kY x.b y.b _ (nx1 _) (ny1 _)).mono ?_;rintro e w2 ⟨rfl,hb2⟩;have B2:=B1.trans (hb2.mono B1.size);obtain⟨hc2,hf2⟩:=kT hb2;have hz2:w.heap.size+1<w2.heap.size:=by have:=hb2.size;omega
 have ha2:=fun o=>(hc2 w.heap.size o (by omega)).trans (ha1 o)
 have he2:=fun o=>(hc2 (w.heap.size+1) o (by omega)).trans (he1 o)
 have hg2:=fun o=>(hf2 w.heap.size o (by omega)).trans (hg1 o)
 have hi2:=fun o=>(hf2 (w.heap.size+1) o (by omega)).trans (hi1 o)
 clear hc2 hf2;clear hb2;cases hq1:ku x.b y.b
 case false=>
  go_wp2_with fail
  go_ret;exact⟨by rw[dB (fun e=>by rw[e]at hq1;exact absurd hq1 (by simp[eG]))];rfl,B2⟩
 go_wp2_with fail
 go_ret;refine⟨?_,B2⟩;have hxy:x=y:=aS.kZ (iW hq0) (iW hq1);rw[iq hxy];rfl
theorem BR(xs ys:List aS){A B:Option Addr}{c d:Nat}{b1 b2}(w:World)(hx:T1 w (.sl xs.length (xs.flatMap aS.enc)) b1 (.slice A xs.length c))(hy:T1 w (.sl ys.length (ys.flatMap aS.enc)) b2 (.slice B ys.length d))(hn':xs.length≤maxLen)(hm':ys.length≤maxLen):
  Calls Tryz.prog 111 #[.slice A xs.length c,.slice B ys.length d] w fun e w'=>e=.returned (.bool (ku xs ys))∧Below w.heap.size w w':=by
 unfold maxLen at hn' hm'
 by_cases hnm:xs.length=ys.length
 ·obtain⟨n,hn0⟩:∃n,ys.length=n:=⟨_,rfl⟩;rw[hn0]at hnm;have hn:Hid (xs.length=n):=hnm;have hm:Hid (ys.length=n):=hn0;rw[hnm]at hx hn' ⊢;rw[hn0]at hy hm' ⊢;clear hnm hn0
  go_enter Tryz.func111,Tryz.ntmps111
  go_wp2_with fail
  go_loopw [5] (fun i w'=>∃k:Nat,k≤n∧i=.int .i64 k∧Hid (xs.take k=ys.take k)∧Below w.heap.size w w') (fun i _=>n-(intOf i).toNat)
  case atStart=>exact⟨0,Nat.zero_le _,rfl,rfl,Below.refl _ _⟩
  case round=>
   obtain⟨k,hk,rfl,ht,hb⟩:=hrel
   by_cases hlt:k<n
   ·obtain⟨ba,oa,x,rfl,hba,hxk,x0,x1,x2,x3⟩:=aS.iT (hx.below hb) hn.out hlt;obtain⟨bb,ob,y,rfl,hbb,hyk,y0,y1,y2,y3⟩:=aS.iT (hy.below hb) hm.out hlt;have nx:=aS.kK (w:=wr) (x:=x);have ny:=aS.kK (w:=wr) (x:=y);cases hd:ku x y
    case false=>
     have hcall:=fun e:bn wr=>wh x y _ (nx.below e.h) (ny.below e.h)
     rw[hd]at hcall;have HC:=Lib.hid hcall;clear hcall
     go_wp2_with fail
     have hext:=bn.cell (w:=wr);refine bG (by kernel_rfl) (by kernel_rfl) ?_
     repeat (go_big_quiet_step (exact Calls.eX (HC.out _)))
     refine wpQuiet_nil ?_;rintro _ ⟨e,rfl⟩;have hbe:=hb.trans (e.h.mono hb.size);clear hext
     go_wp2_with fail
     go_ret;exact⟨by rw[dB (uJ hxk hyk (qA hd))];rfl,hbe⟩
    have hcall:=fun e:bn wr=>wh x y _ (nx.below e.h) (ny.below e.h)
    rw[hd]at hcall;have HC:=Lib.hid hcall;clear hcall
    go_wp2_with fail
    have hext:=bn.cell (w:=wr);refine bG (by kernel_rfl) (by kernel_rfl) ?_
    repeat (go_big_quiet_step (exact Calls.eX (HC.out _)))
    refine wpQuiet_nil ?_;rintro _ ⟨e,rfl⟩;have hbe:=hb.trans (e.h.mono hb.size);clear hext
    go_wp2_with fail
    exact⟨⟨k+1,by omega,by go_num,fU ht hxk hyk (iW hd),hbe⟩,by simp[intOf];omega⟩
   ·have:k=n:=by omega
    subst this
    go_wp2_with fail
    go_ret;exact⟨by rw[iq (take_eq_all ht hn hm)];rfl,hb⟩
 ·have hne:=dB (oO (xs:=xs) (ys:=ys) rfl rfl hnm);generalize xs.length=n at*;generalize ys.length=m at*
  go_enter Tryz.func111,Tryz.ntmps111
  go_wp2_with fail
  go_ret;exact⟨by rw[hne];rfl,Below.refl _ _⟩
theorem rE(x y:aA){b1 b2 us vs}(w:World)(hx:TN w x.enc b1 us)(hy:TN w y.enc b2 vs):
  Calls Tryz.prog 56 #[.agg us.toArray,.agg vs.toArray] w fun e w'=>e=.returned (.bool (ku x y))∧Below w.heap.size w w':=by
 obtain⟨Ax2,cx2,bx2,Ax3,cx3,bx3,Ax4,cx4,bx4,rfl,rfl,tx2,lx2,mx2,tx3,lx3,mx3,tx4,lx4,mx4⟩:=aA.us hx;obtain⟨Ay2,cy2,by2,Ay3,cy3,by3,Ay4,cy4,by4,rfl,rfl,ty2,ly2,my2,ty3,ly3,my3,ty4,ly4,my4⟩:=aA.us hy;have HB:=((Below.refl w.heap.size w).alloc (Nat.le_refl _) (.cells #[.int .i64 x.phase,.int .i64 x.victim,.slice Ax2 x.redexes.length cx2,.slice Ax3 x.links.length cx3,.slice Ax4 x.counts.length cx4] 77)).alloc (by simp) (.cells #[.int .i64 y.phase,.int .i64 y.victim,.slice Ay2 y.redexes.length cy2,.slice Ay3 y.links.length cy3,.slice Ay4 y.counts.length cy4] 77)
 go_enter Tryz.func56,Tryz.ntmps56
 cases hq0:(x.phase !=y.phase)
 case true=>
  go_wp2_with fail
  go_ret;exact⟨by rw[dB (fun e=>by rw[e]at hq0;simp at hq0)];rfl,HB⟩
 cases hq1:(x.victim !=y.victim)
 case true=>
  go_wp2_with fail
  go_ret;exact⟨by rw[dB (fun e=>by rw[e]at hq1;simp at hq1)];rfl,HB⟩
 have sx2:=tx2.below HB;have sy2:=ty2.below HB
 go_wp2_with fail
 refine(uD x.redexes y.redexes _ sx2 sy2 (Nat.le_trans lx2 mx2) (Nat.le_trans ly2 my2)).mono ?_;rintro e w1 ⟨rfl,hb1⟩;have B1:=HB.trans (hb1.mono HB.size);obtain⟨hc1,hf1⟩:=kT hb1;have hz1:w.heap.size+1<w1.heap.size:=by have:=hb1.size;simp at this;omega
 have ha1:=fun o=>hc1 w.heap.size o (by first|(simp;done)|(simp;omega))
 have he1:=fun o=>hc1 (w.heap.size+1) o (by first|(simp;done)|(simp;omega))
 have hg1:=fun o=>hf1 w.heap.size o (by first|(simp;done)|(simp;omega))
 have hi1:=fun o=>hf1 (w.heap.size+1) o (by first|(simp;done)|(simp;omega))
 clear hc1 hf1;clear hb1;cases hq2:ku x.redexes y.redexes
 case false=>
  go_wp2_with fail
  go_ret;exact⟨by rw[dB (fun e=>by rw[e]at hq2;exact absurd hq2 (by simp[eG]))];rfl,B1⟩
 have sx3:=tx3.below B1;have sy3:=ty3.below B1
 go_wp2_with fail
 refine(BR x.links y.links _ sx3 sy3 (Nat.le_trans lx3 mx3) (Nat.le_trans ly3 my3)).mono ?_;rintro e w2 ⟨rfl,hb2⟩;have B2:=B1.trans (hb2.mono B1.size);obtain⟨hc2,hf2⟩:=kT hb2;have hz2:w.heap.size+1<w2.heap.size:=by have:=hb2.size;omega
 have ha2:=fun o=>(hc2 w.heap.size o (by omega)).trans (ha1 o)
 have he2:=fun o=>(hc2 (w.heap.size+1) o (by omega)).trans (he1 o)
 have hg2:=fun o=>(hf2 w.heap.size o (by omega)).trans (hg1 o)
 have hi2:=fun o=>(hf2 (w.heap.size+1) o (by omega)).trans (hi1 o)
 clear hc2 hf2;clear hb2;cases hq3:ku x.links y.links
 case false=>
  go_wp2_with fail
  go_ret;exact⟨by rw[dB (fun e=>by rw[e]at hq3;exact absurd hq3 (by simp[eG]))];rfl,B2⟩
 have sx4:=tx4.below B2;have sy4:=ty4.below B2
 go_wp2_with fail
 refine(ni x.counts y.counts _ sx4 sy4 (Nat.le_trans lx4 mx4) (Nat.le_trans ly4 my4)).mono ?_;rintro e w3 ⟨rfl,hb3⟩;have B3:=B2.trans (hb3.mono B2.size);obtain⟨hc3,hf3⟩:=kT hb3;have hz3:w.heap.size+1<w3.heap.size:=by have:=hb3.size;omega
 have ha3:=fun o=>(hc3 w.heap.size o (by omega)).trans (ha2 o)
 have he3:=fun o=>(hc3 (w.heap.size+1) o (by omega)).trans (he2 o)
 have hg3:=fun o=>(hf3 w.heap.size o (by omega)).trans (hg2 o)
 have hi3:=fun o=>(hf3 (w.heap.size+1) o (by omega)).trans (hi2 o)
 clear hc3 hf3;clear hb3;cases hq4:ku x.counts y.counts
 case false=>
  go_wp2_with fail
  go_ret;exact⟨by rw[dB (fun e=>by rw[e]at hq4;exact absurd hq4 (by simp[eG]))];rfl,B3⟩
 go_wp2_with fail
 go_ret;refine⟨?_,B3⟩;have hxy:x=y:=aA.kZ (show x.phase=y.phase by simpa using hq0) (show x.victim=y.victim by simpa using hq1) (iW hq2) (iW hq3) (iW hq4);rw[iq hxy];rfl
theorem yh(xs ys:List aA){A B:Option Addr}{c d:Nat}{b1 b2}(w:World)(hx:T1 w (.sl xs.length (xs.flatMap aA.enc)) b1 (.slice A xs.length c))(hy:T1 w (.sl ys.length (ys.flatMap aA.enc)) b2 (.slice B ys.length d))(hn':xs.length≤maxLen)(hm':ys.length≤maxLen):
  Calls Tryz.prog 23 #[.slice A xs.length c,.slice B ys.length d] w fun e w'=>e=.returned (.bool (ku xs ys))∧Below w.heap.size w w':=by
 unfold maxLen at hn' hm'
 by_cases hnm:xs.length=ys.length
 ·obtain⟨n,hn0⟩:∃n,ys.length=n:=⟨_,rfl⟩;rw[hn0]at hnm;have hn:Hid (xs.length=n):=hnm;have hm:Hid (ys.length=n):=hn0;rw[hnm]at hx hn' ⊢;rw[hn0]at hy hm' ⊢;clear hnm hn0
  go_enter Tryz.func23,Tryz.ntmps23
  go_wp2_with fail
  go_loopw [5] (fun i w'=>∃k:Nat,k≤n∧i=.int .i64 k∧Hid (xs.take k=ys.take k)∧Below w.heap.size w w') (fun i _=>n-(intOf i).toNat)
  case atStart=>exact⟨0,Nat.zero_le _,rfl,rfl,Below.refl _ _⟩
  case round=>
   obtain⟨k,hk,rfl,ht,hb⟩:=hrel
   by_cases hlt:k<n
   ·obtain⟨ba,oa,x,Ax2,cx2,px2,Ax3,cx3,px3,Ax4,cx4,px4,rfl,hba,hxk,x0,x1,x2,x3,x4,tx2,lx2,mx2,tx3,lx3,mx3,tx4,lx4,mx4⟩:=aA.iT (hx.below hb) hn.out hlt;obtain⟨bb,ob,y,Ay2,cy2,py2,Ay3,cy3,py3,Ay4,cy4,py4,rfl,hbb,hyk,y0,y1,y2,y3,y4,ty2,ly2,my2,ty3,ly3,my3,ty4,ly4,my4⟩:=aA.iT (hy.below hb) hm.out hlt;have nx:=aA.kK (w:=wr) (x:=x) tx2 tx3 tx4;have ny:=aA.kK (w:=wr) (x:=y) ty2 ty3 ty4;cases hd:ku x y
    case false=>
     have hcall:=fun e:bn wr=>rE x y _ (nx.below e.h) (ny.below e.h)
     rw[hd]at hcall;have HC:=Lib.hid hcall;clear hcall
     go_wp2_with fail
     have hext:=bn.cell (w:=wr);refine bG (by kernel_rfl) (by kernel_rfl) ?_
     repeat (go_big_quiet_step (exact Calls.eX (HC.out _)))
     refine wpQuiet_nil ?_;rintro _ ⟨e,rfl⟩;have hbe:=hb.trans (e.h.mono hb.size);clear hext
     go_wp2_with fail
     go_ret;exact⟨by rw[dB (uJ hxk hyk (qA hd))];rfl,hbe⟩
    have hcall:=fun e:bn wr=>rE x y _ (nx.below e.h) (ny.below e.h)
    rw[hd]at hcall;have HC:=Lib.hid hcall;clear hcall
    go_wp2_with fail
    have hext:=bn.cell (w:=wr);refine bG (by kernel_rfl) (by kernel_rfl) ?_
    repeat (go_big_quiet_step (exact Calls.eX (HC.out _)))
    refine wpQuiet_nil ?_;rintro _ ⟨e,rfl⟩;have hbe:=hb.trans (e.h.mono hb.size);clear hext
    go_wp2_with fail
    exact⟨⟨k+1,by omega,by go_num,fU ht hxk hyk (iW hd),hbe⟩,by simp[intOf];omega⟩
   ·have:k=n:=by omega
    subst this
    go_wp2_with fail
    go_ret;exact⟨by rw[iq (take_eq_all ht hn hm)];rfl,hb⟩
 ·have hne:=dB (oO (xs:=xs) (ys:=ys) rfl rfl hnm);generalize xs.length=n at*;generalize ys.length=m at*
  go_enter Tryz.func23,Tryz.ntmps23
  go_wp2_with fail
  go_ret;exact⟨by rw[hne];rfl,Below.refl _ _⟩
theorem Dt(x y:bP){b1 b2 us vs}(w:World)(hx:TN w x.enc b1 us)(hy:TN w y.enc b2 vs):
  Calls Tryz.prog 9 #[.agg us.toArray,.agg vs.toArray] w fun e w'=>e=.returned (.bool (ku x y))∧Below w.heap.size w w':=by
 obtain⟨Ax0,cx0,bx0,Ax4,cx4,bx4,Ax5,cx5,bx5,rfl,rfl,tx0,lx0,mx0,tx4,lx4,mx4,tx5,lx5,mx5⟩:=bP.us hx;obtain⟨Ay0,cy0,by0,Ay4,cy4,by4,Ay5,cy5,by5,rfl,rfl,ty0,ly0,my0,ty4,ly4,my4,ty5,ly5,my5⟩:=bP.us hy;have HB:=((Below.refl w.heap.size w).alloc (Nat.le_refl _) (.cells #[.slice Ax0 x.memory.cells.length cx0,.int .i64 x.memory.free,.int .i64 x.memory.root.tag,.int .i64 x.memory.root.at_,.slice Ax4 x.memory.redexes.length cx4,.slice Ax5 x.workers.length cx5,.int .i64 x.active] 44)).alloc (by simp) (.cells #[.slice Ay0 y.memory.cells.length cy0,.int .i64 y.memory.free,.int .i64 y.memory.root.tag,.int .i64 y.memory.root.at_,.slice Ay4 y.memory.redexes.length cy4,.slice Ay5 y.workers.length cy5,.int .i64 y.active] 44)
 go_enter Tryz.func9,Tryz.ntmps9
 have nx0:=bg.kK (x:=x.memory) (tx0.below HB) (tx4.below HB);have ny0:=bg.kK (x:=y.memory) (ty0.below HB) (ty4.below HB)
 go_wp2_with fail
 refine(zY x.memory y.memory _ nx0 ny0).mono ?_;rintro e w1 ⟨rfl,hb1⟩;have B1:=HB.trans (hb1.mono HB.size);obtain⟨hc1,hf1⟩:=kT hb1;have hz1:w.heap.size+1<w1.heap.size:=by have:=hb1.size;simp at this;omega
 have ha1:=fun o=>hc1 w.heap.size o (by first|(simp;done)|(simp;omega))
 have he1:=fun o=>hc1 (w.heap.size+1) o (by first|(simp;done)|(simp;omega))
 have hg1:=fun o=>hf1 w.heap.size o (by first|(simp;done)|(simp;omega))
 have hi1:=fun o=>hf1 (w.heap.size+1) o (by first|(simp;done)|(simp;omega))
 clear hc1 hf1;clear hb1;cases hq0:ku x.memory y.memory
 case false=>
  go_wp2_with fail
  go_ret;exact⟨by rw[dB (fun e=>by rw[e]at hq0;exact absurd hq0 (by simp[eG]))];rfl,B1⟩
 have sx5:=tx5.below B1;have sy5:=ty5.below B1
 go_wp2_with fail
 refine(yh x.workers y.workers _ sx5 sy5 (Nat.le_trans lx5 mx5) (Nat.le_trans ly5 my5)).mono ?_;rintro e w2 ⟨rfl,hb2⟩;have B2:=B1.trans (hb2.mono B1.size);obtain⟨hc2,hf2⟩:=kT hb2;have hz2:w.heap.size+1<w2.heap.size:=by have:=hb2.size;omega
 have ha2:=fun o=>(hc2 w.heap.size o (by omega)).trans (ha1 o)
 have he2:=fun o=>(hc2 (w.heap.size+1) o (by omega)).trans (he1 o)
 have hg2:=fun o=>(hf2 w.heap.size o (by omega)).trans (hg1 o)
 have hi2:=fun o=>(hf2 (w.heap.size+1) o (by omega)).trans (hi1 o)
 clear hc2 hf2;clear hb2;cases hq1:ku x.workers y.workers
 case false=>
  go_wp2_with fail
  go_ret;exact⟨by rw[dB (fun e=>by rw[e]at hq1;exact absurd hq1 (by simp[eG]))];rfl,B2⟩
 cases hq2:(x.active !=y.active)
 case true=>
  go_wp2_with fail
  go_ret;exact⟨by rw[dB (fun e=>by rw[e]at hq2;simp at hq2)];rfl,B2⟩
 go_wp2_with fail
 go_ret;refine⟨?_,B2⟩;have hxy:x=y:=bP.kZ (iW hq0) (iW hq1) (show x.active=y.active by simpa using hq2);rw[iq hxy];rfl
end Go.Proofs.YtgiceoidjipgmaaGreat
