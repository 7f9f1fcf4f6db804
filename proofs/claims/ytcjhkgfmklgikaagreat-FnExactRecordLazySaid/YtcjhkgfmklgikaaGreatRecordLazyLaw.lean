
/- The law FnExactRecordLazy, walked. Printed by gen_law.py. -/
import Derived.Test.YtcjhkgfmklgikaaGreatShort
import Derived.Test.YtcjhkgfmklgikaaGreatProg
import Derived.Test.YtcjhkgfmklgikaaGreatRecordLazyBoth
import Derived.Test.YtcjhkgfmklgikaaGreatKDbg
import Derived.Test.YtcjhkgfmklgikaaGreatFEv
import Derived.Test.YtcjhkgfmklgikaaGreatKEv
import Derived.Test.YtcjhkgfmklgikaaGreatSc
import Derived.BigGuardPart
import Derived.Outline
import Derived.Deep.CutBlock
set_option linter.unusedSimpArgs false
set_option linter.unusedVariables false
namespace Go.Proofs.YtcjhkgfmklgikaaGreat
open Go Go.RowKit Go.Proofs Go.Tr
set_option maxRecDepth 100000 in
set_option maxHeartbeats 16000000 in
theorem Eu(a0:(List aO)){A0:Option Addr}{c0:Nat}{p0:List Nat}(a1:aO){p1:List Nat}{u1:List Value}(a2:Int)(w:World)(ta0:T1 w (.sl a0.length (a0.flatMap aO.enc)) p0 (.slice A0 a0.length c0))(ta1:TN w a1.enc p1 u1):Calls Tryz.prog 4 #[.slice A0 a0.length c0,.agg u1.toArray,.int .i64 a2] w fun e w'=>e=.returned (.bool (true))∧Ext w w':=by
 refine aS fun e=> ?_
 obtain⟨⟨r0,r1⟩,hR0⟩:∃R,R=rF a0 a1 a2:=⟨_,rfl⟩;have hR:=Lib.hid hR0;clear hR0;obtain⟨_,_,_,rfl, -⟩:=aO.us (x:=a1) ta1;have loa1:∀b∈p1,0≤b∧b<w.heap.size:=fun b hb=>⟨Nat.zero_le _,ta1.lt b hb⟩
 have loa0:∀b∈p0,0≤b∧b<w.heap.size:=fun b hb=>⟨Nat.zero_le _,ta0.lt b hb⟩
 have hna0:=ta0.sU
 go_enter Tryz.func4,Tryz.ntmps4
 go_upto_region 1 with(fail)
 generalize hgg1:e.to.heap.size=g1;refine gW e hgg1 (fun w1 e hx1 hgeg1 hltg1 cg1=> ?_);clear hgg1
 replace ta0:=ta0.below hx1
 replace ta1:=ta1.below hx1
 have k1_0:=cg1.always hltg1 0 _ rfl;simp only[Nat.zero_add]at k1_0;clear cg1
 go_wp2_with fail
 refine(Lu a0 1048576 _ (ta0.below e.h) (by unfold maxLen;omega) (by omega) (by omega)).mono ?_;rintro _ W1 ⟨z1,L0,rfl,hr0⟩;have hq2:=Ext.trans e.h z1;have hs2:=hq2.size
 replace k1_0:=k1_0.ext hq2
 replace ta0:=ta0.below hq2
 replace ta1:=ta1.below hq2
 have hy3:=Ext.trans hx1 hq2;obtain⟨e,he⟩:∃e:aQ W1,W1=e.to:=⟨⟨W1,Below.refl _ _⟩,rfl⟩;rw[he];clear he;rcases hr0 with rfl|⟨hr0_0,hr1_0,sm0⟩
 case inl=>
  go_wp2_with fail
  go_ret;exact⟨rfl,aQ.old hy3 e⟩
 have hr2_0:L0≤1048576:=by omega
 have SM0:=Lib.hid sm0;have HL0:=Lib.hid hr1_0;clear sm0 hr1_0
 go_wp2_with fail
 obtain⟨_,_,_, -, -, -,nl1_0,ml1_0⟩:=aO.us (x:=a1) (TN.below ta1 e.h);refine(FU a1 L0 _ (ta1.below e.h) (Nat.le_trans nl1_0 ml1_0) (by omega) (by omega)).mono ?_;rintro _ W2 ⟨z2,L1,rfl,hr1⟩;have hq4:=Ext.trans e.h z2;have hs4:=hq4.size
 replace k1_0:=k1_0.ext hq4
 replace ta0:=ta0.below hq4
 replace ta1:=ta1.below hq4
 have hy5:=Ext.trans hy3 hq4;obtain⟨e,he⟩:∃e:aQ W2,W2=e.to:=⟨⟨W2,Below.refl _ _⟩,rfl⟩;rw[he];clear he;rcases hr1 with rfl|⟨hr0_1,hr1_1,sm1⟩
 case inl=>
  go_wp2_with fail
  go_ret;exact⟨rfl,aQ.old hy5 e⟩
 have hr2_1:L1≤1048576:=by omega
 have SM1:=Lib.hid sm1;have HL1:=Lib.hid hr1_1;clear sm1 hr1_1
 go_wp2_with fail
 refine rQ _ (by kernel_rfl) 11 (by kernel_rfl) ?_;refine eH 0 rfl (by kernel_rfl) ?_;go_big_quiet_step (fail);refine wpQuiet_nil ?_;refine eH 2 rfl (by kernel_rfl) ?_;go_big_quiet_step (fail);refine wpQuiet_nil ?_;refine eH 4 rfl (by kernel_rfl) ?_;go_big_quiet_step (fail);refine wpQuiet_nil ?_;refine lT 1 rfl (by kernel_rfl) (fun e=> ?_)
 go_wp2_with fail
 refine(vC a0 _ (ta0.below e.h) SM0.out).mono ?_;rintro _ W3 ⟨B3,D3,q3,rfl,z3,T3,O3⟩;have lo3:∀b∈q3,e.to.heap.size≤b∧b<W3.heap.size:=fun b hb=>⟨(O3.2 b hb).1,T3.lt b hb⟩
 have sz3:=e.h.size;have sw3:=(Ext.trans hy5 e.h).size
 go_wp2_with fail
 refine aI z3 ?_;have hq6:=Ext.trans e.h z3;have hs6:=hq6.size
 replace k1_0:=k1_0.ext hq6
 replace ta0:=ta0.below hq6
 replace ta1:=ta1.below hq6
 have hy7:=Ext.trans hy5 hq6;refine lT 3 rfl (by kernel_rfl) (fun e=> ?_)
 go_wp2_with fail
 refine(uz a1 _ (ta1.below e.h) SM1.out).mono ?_;rintro _ W4 ⟨_,q4,rfl,z4,T4,O4⟩;obtain⟨_,_,_,rfl, -⟩:=aO.us T4;have lo4:∀b∈q4,e.to.heap.size≤b∧b<W4.heap.size:=fun b hb=>⟨(O4.2 b hb).1,T4.lt b hb⟩
 have sz4:=e.h.size;have sw4:=(Ext.trans hy7 e.h).size
 go_wp2_with fail
 refine aI z4 ?_;have hq8:=Ext.trans e.h z4;have hs8:=hq8.size
 replace k1_0:=k1_0.ext hq8
 replace ta0:=ta0.below hq8
 replace ta1:=ta1.below hq8
 replace T3:=T3.below hq8
 replace O3:=O3.below hq8
 have hy9:=Ext.trans hy7 hq8;refine lT 5 rfl (by kernel_rfl) (fun e=> ?_)
 go_wp2_with fail
 refine(Bv a0 a1 a2 r0 r1 hR _ (T3.below e.h) (T4.below e.h)).mono ?_;rintro _ W5 ⟨B5_0,D5_0,q5_0,rfl,z5,T5_0⟩;have lo5_0:∀b∈q5_0,0≤b∧b<W5.heap.size:=fun b hb=>⟨Nat.zero_le _,T5_0.lt b hb⟩
 have sz5:=e.h.size;have sw5:=(Ext.trans hy9 e.h).size
 go_wp2_with fail
 refine aI z5 ?_;have hq10:=Ext.trans e.h z5;have hs10:=hq10.size
 replace k1_0:=k1_0.ext hq10
 replace ta0:=ta0.below hq10
 replace ta1:=ta1.below hq10
 replace T3:=T3.below hq10
 replace T4:=T4.below hq10
 replace O3:=O3.below hq10
 replace O4:=O4.below hq10
 have hy11:=Ext.trans hy9 hq10;refine eH 6 rfl (by kernel_rfl) ?_;go_big_quiet_step (fail);refine wpQuiet_nil ?_;refine eH 7 rfl (by kernel_rfl) ?_;go_big_quiet_step (fail);refine wpQuiet_nil ?_;refine eH 8 rfl (by kernel_rfl) ?_;go_big_quiet_step (fail);refine wpQuiet_nil ?_;refine eH 9 rfl (by kernel_rfl) ?_;go_big_quiet_step (fail);refine wpQuiet_nil ?_;refine eH 10 rfl (by kernel_rfl) ?_;go_big_quiet_step (fail);refine wpQuiet_nil ?_;refine Ac (by kernel_rfl) (fun e=> ?_)
 go_wp2_with fail
 refine(vC a0 _ (ta0.below e.h) SM0.out).mono ?_;rintro _ W6 ⟨B6,D6,q6,rfl,z6,T6,O6⟩;have lo6:∀b∈q6,e.to.heap.size≤b∧b<W6.heap.size:=fun b hb=>⟨(O6.2 b hb).1,T6.lt b hb⟩
 have sz6:=e.h.size;have sw6:=(Ext.trans hy11 e.h).size;have hq12:=Ext.trans e.h z6;have hs12:=hq12.size
 replace k1_0:=k1_0.ext hq12
 replace ta0:=ta0.below hq12
 replace ta1:=ta1.below hq12
 replace T5_0:=T5_0.below hq12
 have hy13:=Ext.trans hy11 hq12;obtain⟨e,he⟩:∃e:aQ W6,W6=e.to:=⟨⟨W6,Below.refl _ _⟩,rfl⟩;rw[he];clear he
 go_wp2_with fail
 refine(uz a1 _ (ta1.below e.h) SM1.out).mono ?_;rintro _ W7 ⟨_,q7,rfl,z7,T7,O7⟩;obtain⟨_,_,_,rfl, -⟩:=aO.us T7;have lo7:∀b∈q7,e.to.heap.size≤b∧b<W7.heap.size:=fun b hb=>⟨(O7.2 b hb).1,T7.lt b hb⟩
 have sz7:=e.h.size;have sw7:=(Ext.trans hy13 e.h).size;have hq14:=Ext.trans e.h z7;have hs14:=hq14.size
 replace k1_0:=k1_0.ext hq14
 replace ta0:=ta0.below hq14
 replace ta1:=ta1.below hq14
 replace T5_0:=T5_0.below hq14
 replace T6:=T6.below hq14
 replace O6:=O6.below hq14
 have hy15:=Ext.trans hy13 hq14;obtain⟨e,he⟩:∃e:aQ W7,W7=e.to:=⟨⟨W7,Below.refl _ _⟩,rfl⟩
 go_upto_region 11 with(fail)
 clear he;generalize hggx1:e.to.heap.size=gx1;refine gW e hggx1 (fun w16 e hx16 hgegx1 hltgx1 cgx1=> ?_);clear hggx1
 replace k1_0:=k1_0.ext hx16
 replace ta0:=ta0.below hx16
 replace ta1:=ta1.below hx16
 replace T5_0:=T5_0.below hx16
 replace T6:=T6.below hx16
 replace T7:=T7.below hx16
 replace O6:=O6.below hx16
 replace O7:=O7.below hx16
 have hy16:=Ext.trans hy15 hx16;have hs_gx1:=hx16.size;have kx1_0:=cgx1.always hltgx1 0 _ rfl;simp only[Nat.zero_add]at kx1_0;clear cgx1
 go_wp2_with fail
 refine(vH a0 a1 a2 r0 r1 hR _ (T6.below e.h) (T7.below e.h)).mono ?_;rintro _ W8 ⟨B8_0,D8_0,q8_0,rfl,z8,T8_0,O8⟩;have O8_0:=O8;have lo8_0:∀b∈q8_0,e.to.heap.size≤b∧b<W8.heap.size:=fun b hb=>⟨(O8_0.2 b hb).1,T8_0.lt b hb⟩
 have sz8:=e.h.size;have sw8:=(Ext.trans hy16 e.h).size;have hq17:=Ext.trans e.h z8;have hs17:=hq17.size
 replace k1_0:=k1_0.ext hq17
 replace kx1_0:=kx1_0.ext hq17
 replace ta0:=ta0.below hq17
 replace ta1:=ta1.below hq17
 replace T5_0:=T5_0.below hq17
 replace T6:=T6.below hq17
 replace T7:=T7.below hq17
 replace O6:=O6.below hq17
 replace O7:=O7.below hq17
 have hy18:=Ext.trans hy16 hq17;obtain⟨e,he⟩:∃e:aQ W8,W8=e.to:=⟨⟨W8,Below.refl _ _⟩,rfl⟩;rw[he];clear he;have ee_r0:vF r0 r0=true:=ql r0
 go_wp2_with fail
 refine(uM r0 r0 _ (T8_0.below e.h) (T5_0.below e.h) (by have:=T8_0.sU;unfold maxLen;omega) (by have:=T8_0.sU;unfold maxLen;omega)).mono ?_;rintro _ W9 ⟨rfl,z9⟩;have hq19:=Ext.trans e.h z9;have hs19:=hq19.size
 replace k1_0:=k1_0.ext hq19
 replace kx1_0:=kx1_0.ext hq19
 replace ta0:=ta0.below hq19
 replace ta1:=ta1.below hq19
 replace T5_0:=T5_0.below hq19
 replace T6:=T6.below hq19
 replace T7:=T7.below hq19
 replace T8_0:=T8_0.below hq19
 replace O6:=O6.below hq19
 replace O7:=O7.below hq19
 replace O8_0:=O8_0.below hq19
 have hy20:=Ext.trans hy18 hq19;obtain⟨e,he⟩:∃e:aQ W9,W9=e.to:=⟨⟨W9,Below.refl _ _⟩,rfl⟩;rw[he];clear he;have ee_a0:vF a0 a0=true:=ql a0
 go_wp2_with fail
 refine(vC a0 _ (ta0.below e.h) SM0.out).mono ?_;rintro _ W10 ⟨B10,D10,q10,rfl,z10,T10,O10⟩;have lo10:∀b∈q10,e.to.heap.size≤b∧b<W10.heap.size:=fun b hb=>⟨(O10.2 b hb).1,T10.lt b hb⟩
 have sz10:=e.h.size;have sw10:=(Ext.trans hy20 e.h).size;have hq21:=Ext.trans e.h z10;have hs21:=hq21.size
 replace k1_0:=k1_0.ext hq21
 replace kx1_0:=kx1_0.ext hq21
 replace ta0:=ta0.below hq21
 replace ta1:=ta1.below hq21
 replace T5_0:=T5_0.below hq21
 replace T6:=T6.below hq21
 replace T7:=T7.below hq21
 replace T8_0:=T8_0.below hq21
 replace O6:=O6.below hq21
 replace O7:=O7.below hq21
 replace O8_0:=O8_0.below hq21
 have hy22:=Ext.trans hy20 hq21;obtain⟨e,he⟩:∃e:aQ W10,W10=e.to:=⟨⟨W10,Below.refl _ _⟩,rfl⟩;rw[he];clear he
 go_wp2_with fail
 refine(KD a0 a0 _ (T6.below e.h) (T10.below e.h) (by have:=T6.sU;unfold maxLen;omega) (by have:=T6.sU;unfold maxLen;omega)).mono ?_;rintro _ W11 ⟨rfl,z11⟩;have hq23:=Ext.trans e.h z11;have hs23:=hq23.size
 replace k1_0:=k1_0.ext hq23
 replace kx1_0:=kx1_0.ext hq23
 replace ta0:=ta0.below hq23
 replace ta1:=ta1.below hq23
 replace T5_0:=T5_0.below hq23
 replace T6:=T6.below hq23
 replace T7:=T7.below hq23
 replace T8_0:=T8_0.below hq23
 replace T10:=T10.below hq23
 replace O6:=O6.below hq23
 replace O7:=O7.below hq23
 replace O8_0:=O8_0.below hq23
 replace O10:=O10.below hq23
 have hy24:=Ext.trans hy22 hq23;obtain⟨e,he⟩:∃e:aQ W11,W11=e.to:=⟨⟨W11,Below.refl _ _⟩,rfl⟩;rw[he];clear he;have ee_a1:vF a1 a1=true:=ql a1
 go_wp2_with fail
 refine rQ _ (by kernel_rfl) 5 (by kernel_rfl) ?_;refine eH 0 rfl (by kernel_rfl) ?_;go_big_quiet_step (fail);refine wpQuiet_nil ?_;refine eH 1 rfl (by kernel_rfl) ?_;go_big_quiet_step (fail);refine wpQuiet_nil ?_;refine lT 2 rfl (by kernel_rfl) (fun e=> ?_)
 go_wp2_with fail
 refine(uz a1 _ (ta1.below e.h) SM1.out).mono ?_;rintro _ W12 ⟨_,q12,rfl,z12,T12,O12⟩;obtain⟨_,_,_,rfl, -⟩:=aO.us T12;have lo12:∀b∈q12,e.to.heap.size≤b∧b<W12.heap.size:=fun b hb=>⟨(O12.2 b hb).1,T12.lt b hb⟩
 have sz12:=e.h.size;have sw12:=(Ext.trans hy24 e.h).size
 go_wp2_with fail
 refine aI z12 ?_;have hq25:=Ext.trans e.h z12;have hs25:=hq25.size
 replace k1_0:=k1_0.ext hq25
 replace kx1_0:=kx1_0.ext hq25
 replace ta0:=ta0.below hq25
 replace ta1:=ta1.below hq25
 replace T5_0:=T5_0.below hq25
 replace T6:=T6.below hq25
 replace T7:=T7.below hq25
 replace T8_0:=T8_0.below hq25
 replace O6:=O6.below hq25
 replace O7:=O7.below hq25
 replace O8_0:=O8_0.below hq25
 have hy26:=Ext.trans hy24 hq25;refine lT 3 rfl (by kernel_rfl) (fun e=> ?_)
 go_wp2_with fail
 refine(zZ a1 a1 _ (T7.below e.h) (T12.below e.h)).mono ?_;rintro _ W13 ⟨rfl,z13⟩
 go_wp2_with fail
 refine aI z13 ?_;have hq27:=Ext.trans e.h z13;have hs27:=hq27.size
 replace k1_0:=k1_0.ext hq27
 replace kx1_0:=kx1_0.ext hq27
 replace ta0:=ta0.below hq27
 replace ta1:=ta1.below hq27
 replace T5_0:=T5_0.below hq27
 replace T6:=T6.below hq27
 replace T7:=T7.below hq27
 replace T8_0:=T8_0.below hq27
 replace T12:=T12.below hq27
 replace O6:=O6.below hq27
 replace O7:=O7.below hq27
 replace O8_0:=O8_0.below hq27
 replace O12:=O12.below hq27
 have hy28:=Ext.trans hy26 hq27;refine eH 4 rfl (by kernel_rfl) ?_;go_big_quiet_step (fail);refine wpQuiet_nil ?_;refine Ac (by kernel_rfl) (fun e=> ?_)
 go_wp2_with fail
 have cb0:cN (a0.flatMap aO.enc)≤33554432:=by have h1:=dJ (f:=aO.enc) (g:=aO.wt) aO.Cg a0;have h2:=HL0.out;omega
 have cb1:a1.cnt≤33554432:=by have h1:=aO.Kz a1;have h2:=HL1.out;omega
 have rb0:cN (r0.flatMap aP.enc)≤1099511627776:=Av a0 a1 a2 r0 r1 hR.out SM0.out SM1.out;refine(GZ a0 1 _ (T6.below e.h) (O6.below e.h) (by have:=T6.sU;unfold maxLen;omega) (by omega) (by omega)).mono ?_;rintro _ W14 ⟨kx0,rfl,hkx0,M14,f14,V14⟩;have pkx0:0≤kx0:=by have:=hkx0.out;omega
 have hsW14:=f14.size;have hszW14:=e.h.size
 replace k1_0:=k1_0.zA e f14 (by omega) (fun hm=>by have:=lo6 _ hm;omega)
 replace kx1_0:=kx1_0.zA e f14 (by omega) (fun hm=>by have:=lo6 _ hm;omega)
 replace ta0:=T1.zA (ta0.below e.h) f14 (fun y hy hm=>by have h1:=loa0 y hy;have h2:=lo6 y hm;omega)
 replace ta1:=TN.zA (ta1.below e.h) f14 (fun y hy hm=>by have h1:=loa1 y hy;have h2:=lo6 y hm;omega)
 replace T5_0:=T1.zA (T5_0.below e.h) f14 (fun y hy hm=>by have h1:=lo5_0 y hy;have h2:=lo6 y hm;omega)
 replace O7:=(O7.below e.h).zA f14
 replace T7:=TN.zA (T7.below e.h) f14 (fun y hy hm=>by have h1:=lo7 y hy;have h2:=lo6 y hm;omega)
 replace O8_0:=(O8_0.below e.h).zA f14
 replace T8_0:=T1.zA (T8_0.below e.h) f14 (fun y hy hm=>by have h1:=lo8_0 y hy;have h2:=lo6 y hm;omega)
 have hB14:Ext w W14:=Below.trans (Ext.trans hy28 e.h) (ng.below f14 (Ext.trans hy28 e.h).size (fun y hm=>by have:=lo6 y hm;have:=(Ext.trans hy28 e.h).size;omega));obtain⟨e,he⟩:∃e:aQ W14,W14=e.to:=⟨⟨W14,Below.refl _ _⟩,rfl⟩;rw[he];clear he;have bdkx0:kx0≤36028797018963968:=by have:=hkx0.out;omega
 go_wp2_with fail
 refine(Jo a1 kx0 _ (T7.below e.h) (O7.below e.h) (by omega) (by omega)).mono ?_;rintro _ W15 ⟨kx1,rfl,hkx1,M15,f15,V15⟩;have pkx1:0≤kx1:=by have:=hkx1.out;omega
 have hsW15:=f15.size;have hszW15:=e.h.size
 replace k1_0:=k1_0.zA e f15 (by omega) (fun hm=>by have:=lo7 _ hm;omega)
 replace kx1_0:=kx1_0.zA e f15 (by omega) (fun hm=>by have:=lo7 _ hm;omega)
 replace ta0:=T1.zA (ta0.below e.h) f15 (fun y hy hm=>by have h1:=loa0 y hy;have h2:=lo7 y hm;omega)
 replace ta1:=TN.zA (ta1.below e.h) f15 (fun y hy hm=>by have h1:=loa1 y hy;have h2:=lo7 y hm;omega)
 replace T5_0:=T1.zA (T5_0.below e.h) f15 (fun y hy hm=>by have h1:=lo5_0 y hy;have h2:=lo7 y hm;omega)
 replace O8_0:=(O8_0.below e.h).zA f15
 replace T8_0:=T1.zA (T8_0.below e.h) f15 (fun y hy hm=>by have h1:=lo8_0 y hy;have h2:=lo7 y hm;omega)
 have hB15:Ext w W15:=Below.trans (Ext.trans hB14 e.h) (ng.below f15 (Ext.trans hB14 e.h).size (fun y hm=>by have:=lo7 y hm;have:=(Ext.trans hB14 e.h).size;omega));obtain⟨e,he⟩:∃e:aQ W15,W15=e.to:=⟨⟨W15,Below.refl _ _⟩,rfl⟩;rw[he];clear he;have bdkx1:kx1≤72057594037927936:=by have:=hkx1.out;omega
 go_wp2_with fail
 refine(uM r0 r0 _ (T8_0.below e.h) (T5_0.below e.h) (by have:=T8_0.sU;unfold maxLen;omega) (by have:=T8_0.sU;unfold maxLen;omega)).mono ?_;rintro _ W16 ⟨rfl,z16⟩;have hq29:=Ext.trans e.h z16;have hs29:=hq29.size
 replace k1_0:=k1_0.ext hq29
 replace kx1_0:=kx1_0.ext hq29
 replace ta0:=ta0.below hq29
 replace ta1:=ta1.below hq29
 replace T5_0:=T5_0.below hq29
 replace T8_0:=T8_0.below hq29
 replace O8_0:=O8_0.below hq29
 have hy30:=Ext.trans hB15 hq29;obtain⟨e,he⟩:∃e:aQ W16,W16=e.to:=⟨⟨W16,Below.refl _ _⟩,rfl⟩;rw[he];clear he
 go_wp2_with fail
 refine(CS r0 1 _ (T8_0.below e.h) (O8_0.below e.h) (by have:=T8_0.sU;unfold maxLen;omega) (by omega) (by omega)).mono ?_;rintro _ W17 ⟨mg0,rfl,hmg0,M17,f17,V17⟩;have pmg0:0≤mg0:=by have:=hmg0.out;omega
 have hsW17:=f17.size;have hszW17:=e.h.size
 replace k1_0:=k1_0.zA e f17 (by omega) (fun hm=>by have:=lo8_0 _ hm;omega)
 replace kx1_0:=kx1_0.zA e f17 (by omega) (fun hm=>by have:=lo8_0 _ hm;omega)
 replace ta0:=T1.zA (ta0.below e.h) f17 (fun y hy hm=>by have h1:=loa0 y hy;have h2:=lo8_0 y hm;omega)
 replace ta1:=TN.zA (ta1.below e.h) f17 (fun y hy hm=>by have h1:=loa1 y hy;have h2:=lo8_0 y hm;omega)
 replace T5_0:=T1.zA (T5_0.below e.h) f17 (fun y hy hm=>by have h1:=lo5_0 y hy;have h2:=lo8_0 y hm;omega)
 have hB17:Ext w W17:=Below.trans (Ext.trans hy30 e.h) (ng.below f17 (Ext.trans hy30 e.h).size (fun y hm=>by have:=lo8_0 y hm;have:=(Ext.trans hy30 e.h).size;omega));obtain⟨e,he⟩:∃e:aQ W17,W17=e.to:=⟨⟨W17,Below.refl _ _⟩,rfl⟩;rw[he];clear he;have bdmg0:mg0≤108086391056891904:=by have:=hmg0.out;omega
 have O8_0:=V17;have CH0:Hid (QC Tryz.prog W17 _ _ _):=fun W hW=>wo r0 1 mg0 r0.length W (M17.below hW) iL (by omega) (by omega) hmg0
 go_wp2_with (first|(go_at_call 23;with_reducible refine(CH0.out.at_ _).mono ?_;rintro _ _ ⟨rfl,e,rfl⟩))
 clear CH0
 go_wp2_with fail
 refine rQ _ (by kernel_rfl) 11 (by kernel_rfl) ?_;refine eH 0 rfl (by kernel_rfl) ?_;go_big_quiet_step (fail);refine wpQuiet_nil ?_;refine eH 2 rfl (by kernel_rfl) ?_;go_big_quiet_step (fail);refine wpQuiet_nil ?_;refine eH 4 rfl (by kernel_rfl) ?_;go_big_quiet_step (fail);refine wpQuiet_nil ?_;refine lT 1 rfl (by kernel_rfl) (fun e=> ?_)
 go_wp2_with fail
 refine(vC a0 _ (ta0.below e.h) SM0.out).mono ?_;rintro _ W18 ⟨B18,D18,q18,rfl,z18,T18,O18⟩;have lo18:∀b∈q18,e.to.heap.size≤b∧b<W18.heap.size:=fun b hb=>⟨(O18.2 b hb).1,T18.lt b hb⟩
 have sz18:=e.h.size;have sw18:=(Ext.trans hB17 e.h).size
 go_wp2_with fail
 refine aI z18 ?_;have hq31:=Ext.trans e.h z18;have hs31:=hq31.size
 replace k1_0:=k1_0.ext hq31
 replace kx1_0:=kx1_0.ext hq31
 replace ta0:=ta0.below hq31
 replace ta1:=ta1.below hq31
 replace T5_0:=T5_0.below hq31
 replace M17:=M17.below hq31
 replace O8_0:=O8_0.below hq31
 have hy32:=Ext.trans hB17 hq31;refine lT 3 rfl (by kernel_rfl) (fun e=> ?_)
 go_wp2_with fail
 refine(uz a1 _ (ta1.below e.h) SM1.out).mono ?_;rintro _ W19 ⟨_,q19,rfl,z19,T19,O19⟩;obtain⟨_,_,_,rfl, -⟩:=aO.us T19;have lo19:∀b∈q19,e.to.heap.size≤b∧b<W19.heap.size:=fun b hb=>⟨(O19.2 b hb).1,T19.lt b hb⟩
 have sz19:=e.h.size;have sw19:=(Ext.trans hy32 e.h).size
 go_wp2_with fail
 refine aI z19 ?_;have hq33:=Ext.trans e.h z19;have hs33:=hq33.size
 replace k1_0:=k1_0.ext hq33
 replace kx1_0:=kx1_0.ext hq33
 replace ta0:=ta0.below hq33
 replace ta1:=ta1.below hq33
 replace T5_0:=T5_0.below hq33
 replace M17:=M17.below hq33
 replace T18:=T18.below hq33
 replace O8_0:=O8_0.below hq33
 replace O18:=O18.below hq33
 have hy34:=Ext.trans hy32 hq33;refine lT 5 rfl (by kernel_rfl) (fun e=> ?_)
 go_wp2_with fail
 refine(vH a0 a1 a2 r0 r1 hR _ (T18.below e.h) (T19.below e.h)).mono ?_;rintro _ W20 ⟨B20_0,D20_0,q20_0,rfl,z20,T20_0,O20⟩;have O20_0:=O20;have lo20_0:∀b∈q20_0,e.to.heap.size≤b∧b<W20.heap.size:=fun b hb=>⟨(O20_0.2 b hb).1,T20_0.lt b hb⟩
 have sz20:=e.h.size;have sw20:=(Ext.trans hy34 e.h).size
 go_wp2_with fail
 refine aI z20 ?_;have hq35:=Ext.trans e.h z20;have hs35:=hq35.size
 replace k1_0:=k1_0.ext hq35
 replace kx1_0:=kx1_0.ext hq35
 replace ta0:=ta0.below hq35
 replace ta1:=ta1.below hq35
 replace T5_0:=T5_0.below hq35
 replace M17:=M17.below hq35
 replace T18:=T18.below hq35
 replace T19:=T19.below hq35
 replace O8_0:=O8_0.below hq35
 replace O18:=O18.below hq35
 replace O19:=O19.below hq35
 have hy36:=Ext.trans hy34 hq35;refine eH 6 rfl (by kernel_rfl) ?_;go_big_quiet_step (fail);refine wpQuiet_nil ?_;refine eH 7 rfl (by kernel_rfl) ?_;go_big_quiet_step (fail);refine wpQuiet_nil ?_;refine eH 8 rfl (by kernel_rfl) ?_;go_big_quiet_step (fail);refine wpQuiet_nil ?_;refine eH 9 rfl (by kernel_rfl) ?_;go_big_quiet_step (fail);refine wpQuiet_nil ?_;refine eH 10 rfl (by kernel_rfl) ?_;go_big_quiet_step (fail);refine wpQuiet_nil ?_;refine Ac (by kernel_rfl) (fun e=> ?_)
 go_wp2_with fail
 refine(uM r0 r0 _ (T20_0.below e.h) (T5_0.below e.h) (by have:=T20_0.sU;unfold maxLen;omega) (by have:=T20_0.sU;unfold maxLen;omega)).mono ?_;rintro _ W21 ⟨rfl,z21⟩;have hq37:=Ext.trans e.h z21;have hs37:=hq37.size
 replace k1_0:=k1_0.ext hq37
 replace kx1_0:=kx1_0.ext hq37
 replace ta0:=ta0.below hq37
 replace ta1:=ta1.below hq37
 replace T5_0:=T5_0.below hq37
 replace M17:=M17.below hq37
 replace T20_0:=T20_0.below hq37
 replace O8_0:=O8_0.below hq37
 replace O20_0:=O20_0.below hq37
 have hy38:=Ext.trans hy36 hq37;obtain⟨e,he⟩:∃e:aQ W21,W21=e.to:=⟨⟨W21,Below.refl _ _⟩,rfl⟩;rw[he];clear he;have CH0:Hid (QC Tryz.prog W21 _ _ _):=fun W hW=>wo r0 1 mg0 r0.length W (M17.below hW) iL (by omega) (by omega) hmg0
 go_wp2_with (first|(go_at_call 23;with_reducible refine(CH0.out.at_ _).mono ?_;rintro _ _ ⟨rfl,e,rfl⟩))
 clear CH0
 go_wp2_with fail
 go_ret;exact⟨rfl,aQ.old hy38 e⟩
end Go.Proofs.YtcjhkgfmklgikaaGreat
