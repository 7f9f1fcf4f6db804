
/- The law FnExactPoolNet, walked. Printed by gen_law.py. -/
import Derived.Test.YtgiceoidjipgmaaGreatShort
import Derived.Test.YtgiceoidjipgmaaGreatProg
import Derived.Test.YtgiceoidjipgmaaGreatPoolNetBoth
import Derived.Test.YtgiceoidjipgmaaGreatKPool
import Derived.Test.YtgiceoidjipgmaaGreatFPool
import Derived.Test.YtgiceoidjipgmaaGreatCPool
import Derived.Test.YtgiceoidjipgmaaGreatZPool
import Derived.Test.YtgiceoidjipgmaaGreatKDbg
import Derived.Test.YtgiceoidjipgmaaGreatFDbg
import Derived.Test.YtgiceoidjipgmaaGreatSc
import Derived.BigGuardPart
import Derived.Outline
import Derived.Deep.CutBlock
set_option linter.unusedSimpArgs false
set_option linter.unusedVariables false
namespace Go.Proofs.YtgiceoidjipgmaaGreat
open Go Go.RowKit Go.Proofs Go.Tr
set_option maxRecDepth 100000 in
set_option maxHeartbeats 16000000 in
theorem DF(a0:bP){p0:List Nat}{u0:List Value}(w:World)(ta0:TN w a0.enc p0 u0):Calls Tryz.prog 3 #[.agg u0.toArray] w fun e w'=>e=.returned (.bool (true))∧Ext w w':=by
 refine cO fun e=> ?_
 obtain⟨⟨r0,r1⟩,hR0⟩:∃R,R=rU a0:=⟨_,rfl⟩;have hR:=Lib.hid hR0;clear hR0;obtain⟨_,_,_,_,_,_,_,_,_,rfl, -⟩:=bP.us (x:=a0) ta0;have loa0:∀b∈p0,0≤b∧b<w.heap.size:=fun b hb=>⟨Nat.zero_le _,ta0.lt b hb⟩
 go_enter Tryz.func3,Tryz.ntmps3
 go_upto_region 1 with(fail)
 generalize hgg0:e.to.heap.size=g0;refine jV e hgg0 (fun w1 e hx1 hgeg0 hltg0 cg0=> ?_);clear hgg0
 replace ta0:=ta0.below hx1
 have k0_0:=cg0.always hltg0 0 _ rfl;have k0_1:=cg0.always hltg0 1 _ rfl;have k0_2:=cg0.always hltg0 2 _ rfl;have k0_3:=cg0.always hltg0 3 _ rfl;have k0_4:=cg0.always hltg0 4 _ rfl;have k0_5:=cg0.always hltg0 5 _ rfl;have k0_6:=cg0.always hltg0 6 _ rfl;simp only[Nat.zero_add]at k0_0 k0_1 k0_2 k0_3 k0_4 k0_5 k0_6;clear cg0
 go_wp2_with fail
 obtain⟨_,_,_,_,_,_,_,_,_, -, -, -,nl0_0,ml0_0, -,nl0_4,ml0_4, -,nl0_5,ml0_5⟩:=bP.us (x:=a0) (TN.below ta0 e.h);refine(Eh a0 1048576 _ (ta0.below e.h) (Nat.le_trans nl0_0 ml0_0) (Nat.le_trans nl0_4 ml0_4) (Nat.le_trans nl0_5 ml0_5) (by omega) (by omega)).mono ?_;rintro _ W1 ⟨z1,L0,rfl,hr0⟩;have hq2:=Ext.trans e.h z1;have hs2:=hq2.size
 replace k0_0:=k0_0.ext hq2
 replace k0_1:=k0_1.ext hq2
 replace k0_2:=k0_2.ext hq2
 replace k0_3:=k0_3.ext hq2
 replace k0_4:=k0_4.ext hq2
 replace k0_5:=k0_5.ext hq2
 replace k0_6:=k0_6.ext hq2
 replace ta0:=ta0.below hq2
 have hy3:=Ext.trans hx1 hq2;obtain⟨e,he⟩:∃e:bn W1,W1=e.to:=⟨⟨W1,Below.refl _ _⟩,rfl⟩;rw[he];clear he;rcases hr0 with rfl|⟨hr0_0,hr1_0,sm0⟩
 case inl=>
  go_wp2_with fail
  go_ret;exact⟨rfl,bn.old hy3 e⟩
 have hr2_0:L0≤1048576:=by omega
 have SM0:=Lib.hid sm0;have HL0:=Lib.hid hr1_0;clear sm0 hr1_0
 go_wp2_with fail
 refine(nN a0 _ (ta0.below e.h) SM0.out).mono ?_;rintro _ W2 ⟨_,q2,rfl,z2,T2,O2⟩;obtain⟨_,_,_,_,_,_,_,_,_,rfl, -⟩:=bP.us T2;have lo2:∀b∈q2,e.to.heap.size≤b∧b<W2.heap.size:=fun b hb=>⟨(O2.2 b hb).1,T2.lt b hb⟩
 have sz2:=e.h.size;have sw2:=(Ext.trans hy3 e.h).size;have hq4:=Ext.trans e.h z2;have hs4:=hq4.size
 replace k0_0:=k0_0.ext hq4
 replace k0_1:=k0_1.ext hq4
 replace k0_2:=k0_2.ext hq4
 replace k0_3:=k0_3.ext hq4
 replace k0_4:=k0_4.ext hq4
 replace k0_5:=k0_5.ext hq4
 replace k0_6:=k0_6.ext hq4
 replace ta0:=ta0.below hq4
 have hy5:=Ext.trans hy3 hq4;obtain⟨e,he⟩:∃e:bn W2,W2=e.to:=⟨⟨W2,Below.refl _ _⟩,rfl⟩;rw[he];clear he
 go_wp2_with fail
 refine(AP a0 r0 r1 hR _ (T2.below e.h) SM0.out).mono ?_;rintro _ W3 ⟨_,q3_0,rfl,z3,T3_0⟩;obtain⟨A3_0_0,c3_0_0,_,rfl, -⟩:=bV.us T3_0;have lo3_0:∀b∈q3_0,0≤b∧b<W3.heap.size:=fun b hb=>⟨Nat.zero_le _,T3_0.lt b hb⟩
 have sz3:=e.h.size;have sw3:=(Ext.trans hy5 e.h).size;have hq6:=Ext.trans e.h z3;have hs6:=hq6.size
 replace k0_0:=k0_0.ext hq6
 replace k0_1:=k0_1.ext hq6
 replace k0_2:=k0_2.ext hq6
 replace k0_3:=k0_3.ext hq6
 replace k0_4:=k0_4.ext hq6
 replace k0_5:=k0_5.ext hq6
 replace k0_6:=k0_6.ext hq6
 replace ta0:=ta0.below hq6
 replace T2:=T2.below hq6
 replace O2:=O2.below hq6
 have hy7:=Ext.trans hy5 hq6;obtain⟨e,he⟩:∃e:bn W3,W3=e.to:=⟨⟨W3,Below.refl _ _⟩,rfl⟩;rw[he];clear he
 go_upto_region 6 with(fail)
 generalize hggbw0:e.to.heap.size=gbw0;refine jV e hggbw0 (fun w8 e hx8 hgegbw0 hltgbw0 cgbw0=> ?_);clear hggbw0
 replace k0_0:=k0_0.ext hx8
 replace k0_1:=k0_1.ext hx8
 replace k0_2:=k0_2.ext hx8
 replace k0_3:=k0_3.ext hx8
 replace k0_4:=k0_4.ext hx8
 replace k0_5:=k0_5.ext hx8
 replace k0_6:=k0_6.ext hx8
 replace ta0:=ta0.below hx8
 replace T3_0:=T3_0.below hx8
 have hy8:=Ext.trans hy7 hx8;have hs_gbw0:=hx8.size;have kbw0_0:=cgbw0.always hltgbw0 0 _ rfl;simp only[Nat.zero_add]at kbw0_0;clear cgbw0
 go_wp2_with fail
 refine(nN a0 _ (ta0.below e.h) SM0.out).mono ?_;rintro _ W4 ⟨_,q4,rfl,z4,T4,O4⟩;obtain⟨_,_,_,_,_,_,_,_,_,rfl, -⟩:=bP.us T4;have lo4:∀b∈q4,e.to.heap.size≤b∧b<W4.heap.size:=fun b hb=>⟨(O4.2 b hb).1,T4.lt b hb⟩
 have sz4:=e.h.size;have sw4:=(Ext.trans hy8 e.h).size;have hq9:=Ext.trans e.h z4;have hs9:=hq9.size
 replace k0_0:=k0_0.ext hq9
 replace k0_1:=k0_1.ext hq9
 replace k0_2:=k0_2.ext hq9
 replace k0_3:=k0_3.ext hq9
 replace k0_4:=k0_4.ext hq9
 replace k0_5:=k0_5.ext hq9
 replace k0_6:=k0_6.ext hq9
 replace kbw0_0:=kbw0_0.ext hq9
 replace ta0:=ta0.below hq9
 replace T3_0:=T3_0.below hq9
 have hy10:=Ext.trans hy8 hq9;obtain⟨e,he⟩:∃e:bn W4,W4=e.to:=⟨⟨W4,Below.refl _ _⟩,rfl⟩
 go_upto_region 7 with(fail)
 clear he;generalize hggx0:e.to.heap.size=gx0;refine jV e hggx0 (fun w11 e hx11 hgegx0 hltgx0 cgx0=> ?_);clear hggx0
 replace k0_0:=k0_0.ext hx11
 replace k0_1:=k0_1.ext hx11
 replace k0_2:=k0_2.ext hx11
 replace k0_3:=k0_3.ext hx11
 replace k0_4:=k0_4.ext hx11
 replace k0_5:=k0_5.ext hx11
 replace k0_6:=k0_6.ext hx11
 replace kbw0_0:=kbw0_0.ext hx11
 replace ta0:=ta0.below hx11
 replace T3_0:=T3_0.below hx11
 replace T4:=T4.below hx11
 replace O4:=O4.below hx11
 have hy11:=Ext.trans hy10 hx11;have hs_gx0:=hx11.size;have kx0_0:=cgx0.always hltgx0 0 _ rfl;have kx0_1:=cgx0.always hltgx0 1 _ rfl;have kx0_2:=cgx0.always hltgx0 2 _ rfl;have kx0_3:=cgx0.always hltgx0 3 _ rfl;have kx0_4:=cgx0.always hltgx0 4 _ rfl;have kx0_5:=cgx0.always hltgx0 5 _ rfl;have kx0_6:=cgx0.always hltgx0 6 _ rfl;simp only[Nat.zero_add]at kx0_0 kx0_1 kx0_2 kx0_3 kx0_4 kx0_5 kx0_6;clear cgx0
 go_wp2_with fail
 refine(rV a0 r0 r1 hR _ (T4.below e.h) SM0.out).mono ?_;rintro _ W5 ⟨_,q5_0,rfl,z5,T5_0,O5⟩;obtain⟨A5_0_0,c5_0_0,_,rfl, -⟩:=bV.us T5_0;have O5_0:=O5;have lo5_0:∀b∈q5_0,e.to.heap.size≤b∧b<W5.heap.size:=fun b hb=>⟨(O5_0.2 b hb).1,T5_0.lt b hb⟩
 have sz5:=e.h.size;have sw5:=(Ext.trans hy11 e.h).size;have hq12:=Ext.trans e.h z5;have hs12:=hq12.size
 replace k0_0:=k0_0.ext hq12
 replace k0_1:=k0_1.ext hq12
 replace k0_2:=k0_2.ext hq12
 replace k0_3:=k0_3.ext hq12
 replace k0_4:=k0_4.ext hq12
 replace k0_5:=k0_5.ext hq12
 replace k0_6:=k0_6.ext hq12
 replace kbw0_0:=kbw0_0.ext hq12
 replace kx0_0:=kx0_0.ext hq12
 replace kx0_1:=kx0_1.ext hq12
 replace kx0_2:=kx0_2.ext hq12
 replace kx0_3:=kx0_3.ext hq12
 replace kx0_4:=kx0_4.ext hq12
 replace kx0_5:=kx0_5.ext hq12
 replace kx0_6:=kx0_6.ext hq12
 replace ta0:=ta0.below hq12
 replace T3_0:=T3_0.below hq12
 replace T4:=T4.below hq12
 replace O4:=O4.below hq12
 have hy13:=Ext.trans hy11 hq12;obtain⟨e,he⟩:∃e:bn W5,W5=e.to:=⟨⟨W5,Below.refl _ _⟩,rfl⟩;rw[he];clear he
 go_upto_region 8 with(fail)
 generalize hggbg0:e.to.heap.size=gbg0;refine jV e hggbg0 (fun w14 e hx14 hgegbg0 hltgbg0 cgbg0=> ?_);clear hggbg0
 replace k0_0:=k0_0.ext hx14
 replace k0_1:=k0_1.ext hx14
 replace k0_2:=k0_2.ext hx14
 replace k0_3:=k0_3.ext hx14
 replace k0_4:=k0_4.ext hx14
 replace k0_5:=k0_5.ext hx14
 replace k0_6:=k0_6.ext hx14
 replace kbw0_0:=kbw0_0.ext hx14
 replace kx0_0:=kx0_0.ext hx14
 replace kx0_1:=kx0_1.ext hx14
 replace kx0_2:=kx0_2.ext hx14
 replace kx0_3:=kx0_3.ext hx14
 replace kx0_4:=kx0_4.ext hx14
 replace kx0_5:=kx0_5.ext hx14
 replace kx0_6:=kx0_6.ext hx14
 replace ta0:=ta0.below hx14
 replace T3_0:=T3_0.below hx14
 replace T4:=T4.below hx14
 replace T5_0:=T5_0.below hx14
 replace O4:=O4.below hx14
 replace O5_0:=O5_0.below hx14
 have hy14:=Ext.trans hy13 hx14;have hs_gbg0:=hx14.size;have kbg0_0:=cgbg0.always hltgbg0 0 _ rfl;simp only[Nat.zero_add]at kbg0_0;clear cgbg0;have ee_r0:ku r0 r0=true:=eG r0
 go_wp2_with fail
 refine(sU r0 r0 _ (T5_0.below e.h) (T3_0.below e.h)).mono ?_;rintro _ W6 ⟨rfl,z6⟩;have hq15:=Ext.trans e.h z6;have hs15:=hq15.size
 replace k0_0:=k0_0.ext hq15
 replace k0_1:=k0_1.ext hq15
 replace k0_2:=k0_2.ext hq15
 replace k0_3:=k0_3.ext hq15
 replace k0_4:=k0_4.ext hq15
 replace k0_5:=k0_5.ext hq15
 replace k0_6:=k0_6.ext hq15
 replace kbw0_0:=kbw0_0.ext hq15
 replace kx0_0:=kx0_0.ext hq15
 replace kx0_1:=kx0_1.ext hq15
 replace kx0_2:=kx0_2.ext hq15
 replace kx0_3:=kx0_3.ext hq15
 replace kx0_4:=kx0_4.ext hq15
 replace kx0_5:=kx0_5.ext hq15
 replace kx0_6:=kx0_6.ext hq15
 replace kbg0_0:=kbg0_0.ext hq15
 replace ta0:=ta0.below hq15
 replace T3_0:=T3_0.below hq15
 replace T4:=T4.below hq15
 replace T5_0:=T5_0.below hq15
 replace O4:=O4.below hq15
 replace O5_0:=O5_0.below hq15
 have hy16:=Ext.trans hy14 hq15;obtain⟨e,he⟩:∃e:bn W6,W6=e.to:=⟨⟨W6,Below.refl _ _⟩,rfl⟩;rw[he];clear he;have ee_a0:ku a0 a0=true:=eG a0
 go_wp2_with fail
 refine xU _ (by kernel_rfl) 5 (by kernel_rfl) ?_;refine sW 0 rfl (by kernel_rfl) ?_;go_big_quiet_step (fail);refine wpQuiet_nil ?_;refine sW 1 rfl (by kernel_rfl) ?_;go_big_quiet_step (fail);refine wpQuiet_nil ?_;refine ze 2 rfl (by kernel_rfl) (fun e=> ?_)
 go_wp2_with fail
 refine(nN a0 _ (ta0.below e.h) SM0.out).mono ?_;rintro _ W7 ⟨_,q7,rfl,z7,T7,O7⟩;obtain⟨_,_,_,_,_,_,_,_,_,rfl, -⟩:=bP.us T7;have lo7:∀b∈q7,e.to.heap.size≤b∧b<W7.heap.size:=fun b hb=>⟨(O7.2 b hb).1,T7.lt b hb⟩
 have sz7:=e.h.size;have sw7:=(Ext.trans hy16 e.h).size
 go_wp2_with fail
 refine aI z7 ?_;have hq17:=Ext.trans e.h z7;have hs17:=hq17.size
 replace k0_0:=k0_0.ext hq17
 replace k0_1:=k0_1.ext hq17
 replace k0_2:=k0_2.ext hq17
 replace k0_3:=k0_3.ext hq17
 replace k0_4:=k0_4.ext hq17
 replace k0_5:=k0_5.ext hq17
 replace k0_6:=k0_6.ext hq17
 replace kbw0_0:=kbw0_0.ext hq17
 replace kx0_0:=kx0_0.ext hq17
 replace kx0_1:=kx0_1.ext hq17
 replace kx0_2:=kx0_2.ext hq17
 replace kx0_3:=kx0_3.ext hq17
 replace kx0_4:=kx0_4.ext hq17
 replace kx0_5:=kx0_5.ext hq17
 replace kx0_6:=kx0_6.ext hq17
 replace kbg0_0:=kbg0_0.ext hq17
 replace ta0:=ta0.below hq17
 replace T3_0:=T3_0.below hq17
 replace T4:=T4.below hq17
 replace T5_0:=T5_0.below hq17
 replace O4:=O4.below hq17
 replace O5_0:=O5_0.below hq17
 have hy18:=Ext.trans hy16 hq17;refine ze 3 rfl (by kernel_rfl) (fun e=> ?_)
 go_wp2_with fail
 refine(Dt a0 a0 _ (T4.below e.h) (T7.below e.h)).mono ?_;rintro _ W8 ⟨rfl,z8⟩
 go_wp2_with fail
 refine aI z8 ?_;have hq19:=Ext.trans e.h z8;have hs19:=hq19.size
 replace k0_0:=k0_0.ext hq19
 replace k0_1:=k0_1.ext hq19
 replace k0_2:=k0_2.ext hq19
 replace k0_3:=k0_3.ext hq19
 replace k0_4:=k0_4.ext hq19
 replace k0_5:=k0_5.ext hq19
 replace k0_6:=k0_6.ext hq19
 replace kbw0_0:=kbw0_0.ext hq19
 replace kx0_0:=kx0_0.ext hq19
 replace kx0_1:=kx0_1.ext hq19
 replace kx0_2:=kx0_2.ext hq19
 replace kx0_3:=kx0_3.ext hq19
 replace kx0_4:=kx0_4.ext hq19
 replace kx0_5:=kx0_5.ext hq19
 replace kx0_6:=kx0_6.ext hq19
 replace kbg0_0:=kbg0_0.ext hq19
 replace ta0:=ta0.below hq19
 replace T3_0:=T3_0.below hq19
 replace T4:=T4.below hq19
 replace T5_0:=T5_0.below hq19
 replace T7:=T7.below hq19
 replace O4:=O4.below hq19
 replace O5_0:=O5_0.below hq19
 replace O7:=O7.below hq19
 have hy20:=Ext.trans hy18 hq19;refine sW 4 rfl (by kernel_rfl) ?_;go_big_quiet_step (fail);refine wpQuiet_nil ?_;refine F7 (by kernel_rfl) (fun e=> ?_)
 go_wp2_with fail
 have cb0:a0.cnt≤33554432:=by have h1:=bP.sN a0;have h2:=HL0.out;omega
 have rb0:r0.cnt≤1099511627776:=yI a0 r0 r1 hR.out SM0.out;refine(Aw a0 1 _ (T4.below e.h) (O4.below e.h) (by omega) (by omega)).mono ?_;rintro _ W9 ⟨kx0,rfl,hkx0,M9,f9,V9⟩;have pkx0:0≤kx0:=by have:=hkx0.out;omega
 have hsW9:=f9.size;have hszW9:=e.h.size
 replace k0_0:=k0_0.j5 e f9 (by omega) (fun hm=>by have:=lo4 _ hm;omega)
 replace k0_1:=k0_1.j5 e f9 (by omega) (fun hm=>by have:=lo4 _ hm;omega)
 replace k0_2:=k0_2.j5 e f9 (by omega) (fun hm=>by have:=lo4 _ hm;omega)
 replace k0_3:=k0_3.j5 e f9 (by omega) (fun hm=>by have:=lo4 _ hm;omega)
 replace k0_4:=k0_4.j5 e f9 (by omega) (fun hm=>by have:=lo4 _ hm;omega)
 replace k0_5:=k0_5.j5 e f9 (by omega) (fun hm=>by have:=lo4 _ hm;omega)
 replace k0_6:=k0_6.j5 e f9 (by omega) (fun hm=>by have:=lo4 _ hm;omega)
 replace kbw0_0:=kbw0_0.j5 e f9 (by omega) (fun hm=>by have:=lo4 _ hm;omega)
 replace kx0_0:=kx0_0.j5 e f9 (by omega) (fun hm=>by have:=lo4 _ hm;omega)
 replace kx0_1:=kx0_1.j5 e f9 (by omega) (fun hm=>by have:=lo4 _ hm;omega)
 replace kx0_2:=kx0_2.j5 e f9 (by omega) (fun hm=>by have:=lo4 _ hm;omega)
 replace kx0_3:=kx0_3.j5 e f9 (by omega) (fun hm=>by have:=lo4 _ hm;omega)
 replace kx0_4:=kx0_4.j5 e f9 (by omega) (fun hm=>by have:=lo4 _ hm;omega)
 replace kx0_5:=kx0_5.j5 e f9 (by omega) (fun hm=>by have:=lo4 _ hm;omega)
 replace kx0_6:=kx0_6.j5 e f9 (by omega) (fun hm=>by have:=lo4 _ hm;omega)
 replace kbg0_0:=kbg0_0.j5 e f9 (by omega) (fun hm=>by have:=lo4 _ hm;omega)
 replace ta0:=TN.j5 (ta0.below e.h) f9 (fun y hy hm=>by have h1:=loa0 y hy;have h2:=lo4 y hm;omega)
 replace T3_0:=TN.j5 (T3_0.below e.h) f9 (fun y hy hm=>by have h1:=lo3_0 y hy;have h2:=lo4 y hm;omega)
 replace O5_0:=(O5_0.below e.h).j5 f9
 replace T5_0:=TN.j5 (T5_0.below e.h) f9 (fun y hy hm=>by have h1:=lo5_0 y hy;have h2:=lo4 y hm;omega)
 have hB9:Ext w W9:=Below.trans (Ext.trans hy20 e.h) (iC.below f9 (Ext.trans hy20 e.h).size (fun y hm=>by have:=lo4 y hm;have:=(Ext.trans hy20 e.h).size;omega));obtain⟨e,he⟩:∃e:bn W9,W9=e.to:=⟨⟨W9,Below.refl _ _⟩,rfl⟩;rw[he];clear he;have bdkx0:kx0≤36028797018963968:=by have:=hkx0.out;omega
 go_wp2_with fail
 refine(sU r0 r0 _ (T5_0.below e.h) (T3_0.below e.h)).mono ?_;rintro _ W10 ⟨rfl,z10⟩;have hq21:=Ext.trans e.h z10;have hs21:=hq21.size
 replace k0_0:=k0_0.ext hq21
 replace k0_1:=k0_1.ext hq21
 replace k0_2:=k0_2.ext hq21
 replace k0_3:=k0_3.ext hq21
 replace k0_4:=k0_4.ext hq21
 replace k0_5:=k0_5.ext hq21
 replace k0_6:=k0_6.ext hq21
 replace kbw0_0:=kbw0_0.ext hq21
 replace kx0_0:=kx0_0.ext hq21
 replace kx0_1:=kx0_1.ext hq21
 replace kx0_2:=kx0_2.ext hq21
 replace kx0_3:=kx0_3.ext hq21
 replace kx0_4:=kx0_4.ext hq21
 replace kx0_5:=kx0_5.ext hq21
 replace kx0_6:=kx0_6.ext hq21
 replace kbg0_0:=kbg0_0.ext hq21
 replace ta0:=ta0.below hq21
 replace T3_0:=T3_0.below hq21
 replace T5_0:=T5_0.below hq21
 replace O5_0:=O5_0.below hq21
 have hy22:=Ext.trans hB9 hq21;obtain⟨e,he⟩:∃e:bn W10,W10=e.to:=⟨⟨W10,Below.refl _ _⟩,rfl⟩;rw[he];clear he
 go_wp2_with fail
 refine(Co r0 1 _ (T5_0.below e.h) (O5_0.below e.h) (by omega) (by omega)).mono ?_;rintro _ W11 ⟨mg0,rfl,hmg0,M11,f11,V11⟩;have pmg0:0≤mg0:=by have:=hmg0.out;omega
 have hsW11:=f11.size;have hszW11:=e.h.size
 replace k0_0:=k0_0.j5 e f11 (by omega) (fun hm=>by have:=lo5_0 _ hm;omega)
 replace k0_1:=k0_1.j5 e f11 (by omega) (fun hm=>by have:=lo5_0 _ hm;omega)
 replace k0_2:=k0_2.j5 e f11 (by omega) (fun hm=>by have:=lo5_0 _ hm;omega)
 replace k0_3:=k0_3.j5 e f11 (by omega) (fun hm=>by have:=lo5_0 _ hm;omega)
 replace k0_4:=k0_4.j5 e f11 (by omega) (fun hm=>by have:=lo5_0 _ hm;omega)
 replace k0_5:=k0_5.j5 e f11 (by omega) (fun hm=>by have:=lo5_0 _ hm;omega)
 replace k0_6:=k0_6.j5 e f11 (by omega) (fun hm=>by have:=lo5_0 _ hm;omega)
 replace kbw0_0:=kbw0_0.j5 e f11 (by omega) (fun hm=>by have:=lo5_0 _ hm;omega)
 replace kx0_0:=kx0_0.j5 e f11 (by omega) (fun hm=>by have:=lo5_0 _ hm;omega)
 replace kx0_1:=kx0_1.j5 e f11 (by omega) (fun hm=>by have:=lo5_0 _ hm;omega)
 replace kx0_2:=kx0_2.j5 e f11 (by omega) (fun hm=>by have:=lo5_0 _ hm;omega)
 replace kx0_3:=kx0_3.j5 e f11 (by omega) (fun hm=>by have:=lo5_0 _ hm;omega)
 replace kx0_4:=kx0_4.j5 e f11 (by omega) (fun hm=>by have:=lo5_0 _ hm;omega)
 replace kx0_5:=kx0_5.j5 e f11 (by omega) (fun hm=>by have:=lo5_0 _ hm;omega)
 replace kx0_6:=kx0_6.j5 e f11 (by omega) (fun hm=>by have:=lo5_0 _ hm;omega)
 replace kbg0_0:=kbg0_0.j5 e f11 (by omega) (fun hm=>by have:=lo5_0 _ hm;omega)
 replace ta0:=TN.j5 (ta0.below e.h) f11 (fun y hy hm=>by have h1:=loa0 y hy;have h2:=lo5_0 y hm;omega)
 replace T3_0:=TN.j5 (T3_0.below e.h) f11 (fun y hy hm=>by have h1:=lo3_0 y hy;have h2:=lo5_0 y hm;omega)
 have hB11:Ext w W11:=Below.trans (Ext.trans hy22 e.h) (iC.below f11 (Ext.trans hy22 e.h).size (fun y hm=>by have:=lo5_0 y hm;have:=(Ext.trans hy22 e.h).size;omega));obtain⟨e,he⟩:∃e:bn W11,W11=e.to:=⟨⟨W11,Below.refl _ _⟩,rfl⟩;rw[he];clear he;have bdmg0:mg0≤72057594037927936:=by have:=hmg0.out;omega
 have O5_0:=V11;have CH0:Hid (QC Tryz.prog W11 _ _ _):=fun W hW=>uF r0 1 mg0 W (TN.below M11 hW) (by omega) (by omega) hmg0
 go_wp2_with (first|(go_at_call 12;with_reducible refine(CH0.out.at_ _).mono ?_;rintro _ _ ⟨rfl,e,rfl⟩))
 clear CH0
 go_wp2_with fail
 refine(nN a0 _ (ta0.below e.h) SM0.out).mono ?_;rintro _ W12 ⟨_,q12,rfl,z12,T12,O12⟩;obtain⟨_,_,_,_,_,_,_,_,_,rfl, -⟩:=bP.us T12;have lo12:∀b∈q12,e.to.heap.size≤b∧b<W12.heap.size:=fun b hb=>⟨(O12.2 b hb).1,T12.lt b hb⟩
 have sz12:=e.h.size;have sw12:=(Ext.trans hB11 e.h).size;have hq23:=Ext.trans e.h z12;have hs23:=hq23.size
 replace k0_0:=k0_0.ext hq23
 replace k0_1:=k0_1.ext hq23
 replace k0_2:=k0_2.ext hq23
 replace k0_3:=k0_3.ext hq23
 replace k0_4:=k0_4.ext hq23
 replace k0_5:=k0_5.ext hq23
 replace k0_6:=k0_6.ext hq23
 replace kbw0_0:=kbw0_0.ext hq23
 replace kx0_0:=kx0_0.ext hq23
 replace kx0_1:=kx0_1.ext hq23
 replace kx0_2:=kx0_2.ext hq23
 replace kx0_3:=kx0_3.ext hq23
 replace kx0_4:=kx0_4.ext hq23
 replace kx0_5:=kx0_5.ext hq23
 replace kx0_6:=kx0_6.ext hq23
 replace kbg0_0:=kbg0_0.ext hq23
 replace ta0:=ta0.below hq23
 replace T3_0:=T3_0.below hq23
 replace M11:=M11.below hq23
 replace O5_0:=O5_0.below hq23
 have hy24:=Ext.trans hB11 hq23;obtain⟨e,he⟩:∃e:bn W12,W12=e.to:=⟨⟨W12,Below.refl _ _⟩,rfl⟩;rw[he];clear he
 go_wp2_with fail
 refine(rV a0 r0 r1 hR _ (T12.below e.h) SM0.out).mono ?_;rintro _ W13 ⟨_,q13_0,rfl,z13,T13_0,O13⟩;obtain⟨A13_0_0,c13_0_0,_,rfl, -⟩:=bV.us T13_0;have O13_0:=O13;have lo13_0:∀b∈q13_0,e.to.heap.size≤b∧b<W13.heap.size:=fun b hb=>⟨(O13_0.2 b hb).1,T13_0.lt b hb⟩
 have sz13:=e.h.size;have sw13:=(Ext.trans hy24 e.h).size;have hq25:=Ext.trans e.h z13;have hs25:=hq25.size
 replace k0_0:=k0_0.ext hq25
 replace k0_1:=k0_1.ext hq25
 replace k0_2:=k0_2.ext hq25
 replace k0_3:=k0_3.ext hq25
 replace k0_4:=k0_4.ext hq25
 replace k0_5:=k0_5.ext hq25
 replace k0_6:=k0_6.ext hq25
 replace kbw0_0:=kbw0_0.ext hq25
 replace kx0_0:=kx0_0.ext hq25
 replace kx0_1:=kx0_1.ext hq25
 replace kx0_2:=kx0_2.ext hq25
 replace kx0_3:=kx0_3.ext hq25
 replace kx0_4:=kx0_4.ext hq25
 replace kx0_5:=kx0_5.ext hq25
 replace kx0_6:=kx0_6.ext hq25
 replace kbg0_0:=kbg0_0.ext hq25
 replace ta0:=ta0.below hq25
 replace T3_0:=T3_0.below hq25
 replace M11:=M11.below hq25
 replace T12:=T12.below hq25
 replace O5_0:=O5_0.below hq25
 replace O12:=O12.below hq25
 have hy26:=Ext.trans hy24 hq25;obtain⟨e,he⟩:∃e:bn W13,W13=e.to:=⟨⟨W13,Below.refl _ _⟩,rfl⟩;rw[he];clear he
 go_upto_region 25 with(fail)
 generalize hggbh0:e.to.heap.size=gbh0;refine jV e hggbh0 (fun w27 e hx27 hgegbh0 hltgbh0 cgbh0=> ?_);clear hggbh0
 replace k0_0:=k0_0.ext hx27
 replace k0_1:=k0_1.ext hx27
 replace k0_2:=k0_2.ext hx27
 replace k0_3:=k0_3.ext hx27
 replace k0_4:=k0_4.ext hx27
 replace k0_5:=k0_5.ext hx27
 replace k0_6:=k0_6.ext hx27
 replace kbw0_0:=kbw0_0.ext hx27
 replace kx0_0:=kx0_0.ext hx27
 replace kx0_1:=kx0_1.ext hx27
 replace kx0_2:=kx0_2.ext hx27
 replace kx0_3:=kx0_3.ext hx27
 replace kx0_4:=kx0_4.ext hx27
 replace kx0_5:=kx0_5.ext hx27
 replace kx0_6:=kx0_6.ext hx27
 replace kbg0_0:=kbg0_0.ext hx27
 replace ta0:=ta0.below hx27
 replace T3_0:=T3_0.below hx27
 replace M11:=M11.below hx27
 replace T13_0:=T13_0.below hx27
 replace O5_0:=O5_0.below hx27
 replace O13_0:=O13_0.below hx27
 have hy27:=Ext.trans hy26 hx27;have hs_gbh0:=hx27.size;have kbh0_0:=cgbh0.always hltgbh0 0 _ rfl;simp only[Nat.zero_add]at kbh0_0;clear cgbh0
 go_wp2_with fail
 refine(sU r0 r0 _ (T13_0.below e.h) (T3_0.below e.h)).mono ?_;rintro _ W14 ⟨rfl,z14⟩;have hq28:=Ext.trans e.h z14;have hs28:=hq28.size
 replace k0_0:=k0_0.ext hq28
 replace k0_1:=k0_1.ext hq28
 replace k0_2:=k0_2.ext hq28
 replace k0_3:=k0_3.ext hq28
 replace k0_4:=k0_4.ext hq28
 replace k0_5:=k0_5.ext hq28
 replace k0_6:=k0_6.ext hq28
 replace kbw0_0:=kbw0_0.ext hq28
 replace kx0_0:=kx0_0.ext hq28
 replace kx0_1:=kx0_1.ext hq28
 replace kx0_2:=kx0_2.ext hq28
 replace kx0_3:=kx0_3.ext hq28
 replace kx0_4:=kx0_4.ext hq28
 replace kx0_5:=kx0_5.ext hq28
 replace kx0_6:=kx0_6.ext hq28
 replace kbg0_0:=kbg0_0.ext hq28
 replace kbh0_0:=kbh0_0.ext hq28
 replace ta0:=ta0.below hq28
 replace T3_0:=T3_0.below hq28
 replace M11:=M11.below hq28
 replace T13_0:=T13_0.below hq28
 replace O5_0:=O5_0.below hq28
 replace O13_0:=O13_0.below hq28
 have hy29:=Ext.trans hy27 hq28;obtain⟨e,he⟩:∃e:bn W14,W14=e.to:=⟨⟨W14,Below.refl _ _⟩,rfl⟩;rw[he];clear he;have CH0:Hid (QC Tryz.prog W14 _ _ _):=fun W hW=>uF r0 1 mg0 W (TN.below M11 hW) (by omega) (by omega) hmg0
 go_wp2_with (first|(go_at_call 12;with_reducible refine(CH0.out.at_ _).mono ?_;rintro _ _ ⟨rfl,e,rfl⟩))
 clear CH0
 go_wp2_with fail
 go_ret;exact⟨rfl,bn.old hy29 e⟩
end Go.Proofs.YtgiceoidjipgmaaGreat
