
/- The law FnExactExpandedDefs, walked. Printed by gen_law.py. -/
import Derived.Test.YtjijpkphkicoeaaGreatShort
import Derived.Test.YtjijpkphkicoeaaGreatProg
import Derived.Test.YtjijpkphkicoeaaGreatExpandedDefsBoth
import Derived.Test.YtjijpkphkicoeaaGreatKDbg
import Derived.Test.YtjijpkphkicoeaaGreatZDbg
import Derived.Test.YtjijpkphkicoeaaGreatSc
import Derived.BigGuardPart
import Derived.Outline
import Derived.Deep.CutBlock
set_option linter.unusedSimpArgs false
set_option linter.unusedVariables false
namespace Go.Proofs.YtjijpkphkicoeaaGreat
open Go Go.RowKit Go.Proofs Go.Tr
set_option maxRecDepth 100000 in
set_option maxHeartbeats 16000000 in
theorem ZbD(a0:(List aQ)){A0:Option Addr}{c0:Nat}{p0:List Nat}(a1:aQ){p1:List Nat}{u1:List Value}(a2:(List Int)){A2:Option Addr}{c2:Nat}{p2:List Nat}(a3:Int)(w:World)(ta0:T1 w (.sl a0.length (a0.flatMap aQ.enc)) p0 (.slice A0 a0.length c0))(ta1:TN w a1.enc p1 u1)(ta2:T1 w (.sl a2.length (a2.flatMap bM)) p2 (.slice A2 a2.length c2)):Calls Tryz.prog 5 #[.slice A0 a0.length c0,.agg u1.toArray,.slice A2 a2.length c2,.int .i64 a3] w fun e w'=>e=.returned (.bool (true))∧Ext w w':=by
 refine aT fun e=> ?_
 obtain⟨⟨r0,r1⟩,hR0⟩:∃R,R=Zbq a0 a1 a2 a3:=⟨_,rfl⟩;have hR:=Lib.hid hR0;clear hR0;obtain⟨_,_,_,rfl, -⟩:=aQ.us (x:=a1) ta1;have loa1:∀b∈p1,0≤b∧b<w.heap.size:=fun b hb=>⟨Nat.zero_le _,ta1.lt b hb⟩
 have loa0:∀b∈p0,0≤b∧b<w.heap.size:=fun b hb=>⟨Nat.zero_le _,ta0.lt b hb⟩
 have loa2:∀b∈p2,0≤b∧b<w.heap.size:=fun b hb=>⟨Nat.zero_le _,ta2.lt b hb⟩
 have hna0:=ta0.xI;have hna2:=ta2.xI;have el2:=Lib.hid (rfl:a2.length=a2.length)
 go_enter Tryz.func5,Tryz.ntmps5
 go_upto_region 1 with(fail)
 generalize hgg1:e.to.heap.size=g1;refine gU e hgg1 (fun w1 e hx1 hgeg1 hltg1 cg1=> ?_);clear hgg1
 replace ta0:=ta0.below hx1
 replace ta2:=ta2.below hx1
 replace ta1:=ta1.below hx1
 have k1_0:=cg1.always hltg1 0 _ rfl;simp only[Nat.zero_add]at k1_0;clear cg1
 by_cases hsl2:1048576<a2.length
 case pos=>
  go_wp2_with fail
  go_ret;exact⟨rfl,bf.old hx1 e⟩
 replace hsl2:a2.length≤1048576:=by omega
 go_wp2_with fail
 refine(Mt a0 1048576 _ (ta0.below e.h) (by unfold maxLen;omega) (by omega) (by omega)).mono ?_;rintro _ W1 ⟨z1,L0,rfl,hr0⟩;have hq2:=Ext.trans e.h z1;have hs2:=hq2.size
 replace k1_0:=k1_0.ext hq2
 replace ta0:=ta0.below hq2
 replace ta2:=ta2.below hq2
 replace ta1:=ta1.below hq2
 have hy3:=Ext.trans hx1 hq2;obtain⟨e,he⟩:∃e:bf W1,W1=e.to:=⟨⟨W1,Below.refl _ _⟩,rfl⟩;rw[he];clear he;rcases hr0 with rfl|⟨hr0_0,hr1_0,sm0⟩
 case inl=>
  go_wp2_with fail
  go_ret;exact⟨rfl,bf.old hy3 e⟩
 have hr2_0:L0≤1048576:=by omega
 have SM0:=Lib.hid sm0;have HL0:=Lib.hid hr1_0;clear sm0 hr1_0
 go_wp2_with fail
 obtain⟨_,_,_, -, -, -,nl1_0,ml1_0⟩:=aQ.us (x:=a1) (TN.below ta1 e.h);refine(Gp a1 L0 _ (ta1.below e.h) (Nat.le_trans nl1_0 ml1_0) (by omega) (by omega)).mono ?_;rintro _ W2 ⟨z2,L1,rfl,hr1⟩;have hq4:=Ext.trans e.h z2;have hs4:=hq4.size
 replace k1_0:=k1_0.ext hq4
 replace ta0:=ta0.below hq4
 replace ta2:=ta2.below hq4
 replace ta1:=ta1.below hq4
 have hy5:=Ext.trans hy3 hq4;obtain⟨e,he⟩:∃e:bf W2,W2=e.to:=⟨⟨W2,Below.refl _ _⟩,rfl⟩;rw[he];clear he;rcases hr1 with rfl|⟨hr0_1,hr1_1,sm1⟩
 case inl=>
  go_wp2_with fail
  go_ret;exact⟨rfl,bf.old hy5 e⟩
 have hr2_1:L1≤1048576:=by omega
 have SM1:=Lib.hid sm1;have HL1:=Lib.hid hr1_1;clear sm1 hr1_1
 go_wp2_with fail
 refine wN _ (by kernel_rfl) 13 (by kernel_rfl) ?_;refine jd 0 rfl (by kernel_rfl) ?_;go_big_quiet_step (fail);refine wpQuiet_nil ?_;refine jd 2 rfl (by kernel_rfl) ?_;go_big_quiet_step (fail);refine wpQuiet_nil ?_;refine jd 4 rfl (by kernel_rfl) ?_;go_big_quiet_step (fail);refine wpQuiet_nil ?_;refine jd 6 rfl (by kernel_rfl) ?_;go_big_quiet_step (fail);refine wpQuiet_nil ?_;refine tK 1 rfl (by kernel_rfl) (fun e=> ?_)
 go_wp2_with fail
 refine(yK a0 _ (ta0.below e.h) SM0.out).mono ?_;rintro _ W3 ⟨B3,D3,q3,rfl,z3,T3,O3⟩;have lo3:∀b∈q3,e.to.heap.size≤b∧b<W3.heap.size:=fun b hb=>⟨(O3.2 b hb).1,T3.lt b hb⟩
 have sz3:=e.h.size;have sw3:=(Ext.trans hy5 e.h).size
 go_wp2_with fail
 refine aI z3 ?_;have hq6:=Ext.trans e.h z3;have hs6:=hq6.size
 replace k1_0:=k1_0.ext hq6
 replace ta0:=ta0.below hq6
 replace ta2:=ta2.below hq6
 replace ta1:=ta1.below hq6
 have hy7:=Ext.trans hy5 hq6;refine tK 3 rfl (by kernel_rfl) (fun e=> ?_)
 go_wp2_with fail
 refine(xD a1 _ (ta1.below e.h) SM1.out).mono ?_;rintro _ W4 ⟨_,q4,rfl,z4,T4,O4⟩;obtain⟨_,_,_,rfl, -⟩:=aQ.us T4;have lo4:∀b∈q4,e.to.heap.size≤b∧b<W4.heap.size:=fun b hb=>⟨(O4.2 b hb).1,T4.lt b hb⟩
 have sz4:=e.h.size;have sw4:=(Ext.trans hy7 e.h).size
 go_wp2_with fail
 refine aI z4 ?_;have hq8:=Ext.trans e.h z4;have hs8:=hq8.size
 replace k1_0:=k1_0.ext hq8
 replace ta0:=ta0.below hq8
 replace ta2:=ta2.below hq8
 replace ta1:=ta1.below hq8
 replace T3:=T3.below hq8
 replace O3:=O3.below hq8
 have hy9:=Ext.trans hy7 hq8;refine tK 5 rfl (by kernel_rfl) (fun e=> ?_)
 go_wp2_with fail
 refine(I4 a2 _ (ta2.below e.h) hsl2).mono ?_;rintro _ W5 ⟨B5,D5,q5,rfl,z5,T5,O5⟩;have lo5:∀b∈q5,e.to.heap.size≤b∧b<W5.heap.size:=fun b hb=>⟨(O5.2 b hb).1,T5.lt b hb⟩
 have sz5:=e.h.size;have sw5:=(Ext.trans hy9 e.h).size
 go_wp2_with fail
 refine aI z5 ?_;have hq10:=Ext.trans e.h z5;have hs10:=hq10.size
 replace k1_0:=k1_0.ext hq10
 replace ta0:=ta0.below hq10
 replace ta2:=ta2.below hq10
 replace ta1:=ta1.below hq10
 replace T3:=T3.below hq10
 replace T4:=T4.below hq10
 replace O3:=O3.below hq10
 replace O4:=O4.below hq10
 have hy11:=Ext.trans hy9 hq10;refine tK 7 rfl (by kernel_rfl) (fun e=> ?_)
 go_wp2_with fail
 refine(Zbz a0 a1 a2 a3 r0 r1 hR _ (T3.below e.h) (T4.below e.h) (T5.below e.h)).mono ?_;rintro _ W6 ⟨B6_0,D6_0,q6_0,rfl,z6,T6_0⟩;have lo6_0:∀b∈q6_0,0≤b∧b<W6.heap.size:=fun b hb=>⟨Nat.zero_le _,T6_0.lt b hb⟩
 have sz6:=e.h.size;have sw6:=(Ext.trans hy11 e.h).size
 go_wp2_with fail
 refine aI z6 ?_;have hq12:=Ext.trans e.h z6;have hs12:=hq12.size
 replace k1_0:=k1_0.ext hq12
 replace ta0:=ta0.below hq12
 replace ta2:=ta2.below hq12
 replace ta1:=ta1.below hq12
 replace T3:=T3.below hq12
 replace T4:=T4.below hq12
 replace T5:=T5.below hq12
 replace O3:=O3.below hq12
 replace O4:=O4.below hq12
 replace O5:=O5.below hq12
 have hy13:=Ext.trans hy11 hq12;refine jd 8 rfl (by kernel_rfl) ?_;go_big_quiet_step (fail);refine wpQuiet_nil ?_;refine jd 9 rfl (by kernel_rfl) ?_;go_big_quiet_step (fail);refine wpQuiet_nil ?_;refine jd 10 rfl (by kernel_rfl) ?_;go_big_quiet_step (fail);refine wpQuiet_nil ?_;refine jd 11 rfl (by kernel_rfl) ?_;go_big_quiet_step (fail);refine wpQuiet_nil ?_;refine jd 12 rfl (by kernel_rfl) ?_;go_big_quiet_step (fail);refine wpQuiet_nil ?_;refine FN (by kernel_rfl) (fun e=> ?_)
 go_wp2_with fail
 refine(yK a0 _ (ta0.below e.h) SM0.out).mono ?_;rintro _ W7 ⟨B7,D7,q7,rfl,z7,T7,O7⟩;have lo7:∀b∈q7,e.to.heap.size≤b∧b<W7.heap.size:=fun b hb=>⟨(O7.2 b hb).1,T7.lt b hb⟩
 have sz7:=e.h.size;have sw7:=(Ext.trans hy13 e.h).size;have hq14:=Ext.trans e.h z7;have hs14:=hq14.size
 replace k1_0:=k1_0.ext hq14
 replace ta0:=ta0.below hq14
 replace ta2:=ta2.below hq14
 replace ta1:=ta1.below hq14
 replace T6_0:=T6_0.below hq14
 have hy15:=Ext.trans hy13 hq14;obtain⟨e,he⟩:∃e:bf W7,W7=e.to:=⟨⟨W7,Below.refl _ _⟩,rfl⟩;rw[he];clear he
 go_wp2_with fail
 refine(xD a1 _ (ta1.below e.h) SM1.out).mono ?_;rintro _ W8 ⟨_,q8,rfl,z8,T8,O8⟩;obtain⟨_,_,_,rfl, -⟩:=aQ.us T8;have lo8:∀b∈q8,e.to.heap.size≤b∧b<W8.heap.size:=fun b hb=>⟨(O8.2 b hb).1,T8.lt b hb⟩
 have sz8:=e.h.size;have sw8:=(Ext.trans hy15 e.h).size;have hq16:=Ext.trans e.h z8;have hs16:=hq16.size
 replace k1_0:=k1_0.ext hq16
 replace ta0:=ta0.below hq16
 replace ta2:=ta2.below hq16
 replace ta1:=ta1.below hq16
 replace T6_0:=T6_0.below hq16
 replace T7:=T7.below hq16
 replace O7:=O7.below hq16
 have hy17:=Ext.trans hy15 hq16;obtain⟨e,he⟩:∃e:bf W8,W8=e.to:=⟨⟨W8,Below.refl _ _⟩,rfl⟩
 go_upto_region 13 with(fail)
 clear he;generalize hggx1:e.to.heap.size=gx1;refine gU e hggx1 (fun w18 e hx18 hgegx1 hltgx1 cgx1=> ?_);clear hggx1
 replace k1_0:=k1_0.ext hx18
 replace ta0:=ta0.below hx18
 replace ta2:=ta2.below hx18
 replace ta1:=ta1.below hx18
 replace T6_0:=T6_0.below hx18
 replace T7:=T7.below hx18
 replace T8:=T8.below hx18
 replace O7:=O7.below hx18
 replace O8:=O8.below hx18
 have hy18:=Ext.trans hy17 hx18;have hs_gx1:=hx18.size;have kx1_0:=cgx1.always hltgx1 0 _ rfl;simp only[Nat.zero_add]at kx1_0;clear cgx1
 go_wp2_with fail
 refine(I4 a2 _ (ta2.below e.h) hsl2).mono ?_;rintro _ W9 ⟨B9,D9,q9,rfl,z9,T9,O9⟩;have lo9:∀b∈q9,e.to.heap.size≤b∧b<W9.heap.size:=fun b hb=>⟨(O9.2 b hb).1,T9.lt b hb⟩
 have sz9:=e.h.size;have sw9:=(Ext.trans hy18 e.h).size;have hq19:=Ext.trans e.h z9;have hs19:=hq19.size
 replace k1_0:=k1_0.ext hq19
 replace kx1_0:=kx1_0.ext hq19
 replace ta0:=ta0.below hq19
 replace ta2:=ta2.below hq19
 replace ta1:=ta1.below hq19
 replace T6_0:=T6_0.below hq19
 replace T7:=T7.below hq19
 replace T8:=T8.below hq19
 replace O7:=O7.below hq19
 replace O8:=O8.below hq19
 have hy20:=Ext.trans hy18 hq19;obtain⟨e,he⟩:∃e:bf W9,W9=e.to:=⟨⟨W9,Below.refl _ _⟩,rfl⟩;rw[he];clear he
 go_wp2_with fail
 refine(Zbv a0 a1 a2 a3 r0 r1 hR _ (T7.below e.h) (T8.below e.h) (T9.below e.h)).mono ?_;rintro _ W10 ⟨B10_0,D10_0,q10_0,rfl,z10,T10_0,O10⟩;have O10_0:=O10;have lo10_0:∀b∈q10_0,e.to.heap.size≤b∧b<W10.heap.size:=fun b hb=>⟨(O10_0.2 b hb).1,T10_0.lt b hb⟩
 have sz10:=e.h.size;have sw10:=(Ext.trans hy20 e.h).size;have hq21:=Ext.trans e.h z10;have hs21:=hq21.size
 replace k1_0:=k1_0.ext hq21
 replace kx1_0:=kx1_0.ext hq21
 replace ta0:=ta0.below hq21
 replace ta2:=ta2.below hq21
 replace ta1:=ta1.below hq21
 replace T6_0:=T6_0.below hq21
 replace T7:=T7.below hq21
 replace T8:=T8.below hq21
 replace T9:=T9.below hq21
 replace O7:=O7.below hq21
 replace O8:=O8.below hq21
 replace O9:=O9.below hq21
 have hy22:=Ext.trans hy20 hq21;obtain⟨e,he⟩:∃e:bf W10,W10=e.to:=⟨⟨W10,Below.refl _ _⟩,rfl⟩;rw[he];clear he;have ee_r0:wS r0 r0=true:=tF r0
 go_wp2_with fail
 refine(G8 r0 r0 _ (T10_0.below e.h) (T6_0.below e.h) (by have:=T10_0.xI;unfold maxLen;omega) (by have:=T10_0.xI;unfold maxLen;omega)).mono ?_;rintro _ W11 ⟨rfl,z11⟩;have hq23:=Ext.trans e.h z11;have hs23:=hq23.size
 replace k1_0:=k1_0.ext hq23
 replace kx1_0:=kx1_0.ext hq23
 replace ta0:=ta0.below hq23
 replace ta2:=ta2.below hq23
 replace ta1:=ta1.below hq23
 replace T6_0:=T6_0.below hq23
 replace T7:=T7.below hq23
 replace T8:=T8.below hq23
 replace T9:=T9.below hq23
 replace T10_0:=T10_0.below hq23
 replace O7:=O7.below hq23
 replace O8:=O8.below hq23
 replace O9:=O9.below hq23
 replace O10_0:=O10_0.below hq23
 have hy24:=Ext.trans hy22 hq23;obtain⟨e,he⟩:∃e:bf W11,W11=e.to:=⟨⟨W11,Below.refl _ _⟩,rfl⟩;rw[he];clear he;have ee_a0:wS a0 a0=true:=tF a0
 go_wp2_with fail
 refine(yK a0 _ (ta0.below e.h) SM0.out).mono ?_;rintro _ W12 ⟨B12,D12,q12,rfl,z12,T12,O12⟩;have lo12:∀b∈q12,e.to.heap.size≤b∧b<W12.heap.size:=fun b hb=>⟨(O12.2 b hb).1,T12.lt b hb⟩
 have sz12:=e.h.size;have sw12:=(Ext.trans hy24 e.h).size;have hq25:=Ext.trans e.h z12;have hs25:=hq25.size
 replace k1_0:=k1_0.ext hq25
 replace kx1_0:=kx1_0.ext hq25
 replace ta0:=ta0.below hq25
 replace ta2:=ta2.below hq25
 replace ta1:=ta1.below hq25
 replace T6_0:=T6_0.below hq25
 replace T7:=T7.below hq25
 replace T8:=T8.below hq25
 replace T9:=T9.below hq25
 replace T10_0:=T10_0.below hq25
 replace O7:=O7.below hq25
 replace O8:=O8.below hq25
 replace O9:=O9.below hq25
 replace O10_0:=O10_0.below hq25
 have hy26:=Ext.trans hy24 hq25;obtain⟨e,he⟩:∃e:bf W12,W12=e.to:=⟨⟨W12,Below.refl _ _⟩,rfl⟩;rw[he];clear he
 go_wp2_with fail
 refine(Lr a0 a0 _ (T7.below e.h) (T12.below e.h) (by have:=T7.xI;unfold maxLen;omega) (by have:=T7.xI;unfold maxLen;omega)).mono ?_;rintro _ W13 ⟨rfl,z13⟩;have hq27:=Ext.trans e.h z13;have hs27:=hq27.size
 replace k1_0:=k1_0.ext hq27
 replace kx1_0:=kx1_0.ext hq27
 replace ta0:=ta0.below hq27
 replace ta2:=ta2.below hq27
 replace ta1:=ta1.below hq27
 replace T6_0:=T6_0.below hq27
 replace T7:=T7.below hq27
 replace T8:=T8.below hq27
 replace T9:=T9.below hq27
 replace T10_0:=T10_0.below hq27
 replace T12:=T12.below hq27
 replace O7:=O7.below hq27
 replace O8:=O8.below hq27
 replace O9:=O9.below hq27
 replace O10_0:=O10_0.below hq27
 replace O12:=O12.below hq27
 have hy28:=Ext.trans hy26 hq27;obtain⟨e,he⟩:∃e:bf W13,W13=e.to:=⟨⟨W13,Below.refl _ _⟩,rfl⟩;rw[he];clear he;have ee_a1:wS a1 a1=true:=tF a1
 go_wp2_with fail
 refine wN _ (by kernel_rfl) 5 (by kernel_rfl) ?_;refine jd 0 rfl (by kernel_rfl) ?_;go_big_quiet_step (fail);refine wpQuiet_nil ?_;refine jd 1 rfl (by kernel_rfl) ?_;go_big_quiet_step (fail);refine wpQuiet_nil ?_;refine tK 2 rfl (by kernel_rfl) (fun e=> ?_)
 go_wp2_with fail
 refine(xD a1 _ (ta1.below e.h) SM1.out).mono ?_;rintro _ W14 ⟨_,q14,rfl,z14,T14,O14⟩;obtain⟨_,_,_,rfl, -⟩:=aQ.us T14;have lo14:∀b∈q14,e.to.heap.size≤b∧b<W14.heap.size:=fun b hb=>⟨(O14.2 b hb).1,T14.lt b hb⟩
 have sz14:=e.h.size;have sw14:=(Ext.trans hy28 e.h).size
 go_wp2_with fail
 refine aI z14 ?_;have hq29:=Ext.trans e.h z14;have hs29:=hq29.size
 replace k1_0:=k1_0.ext hq29
 replace kx1_0:=kx1_0.ext hq29
 replace ta0:=ta0.below hq29
 replace ta2:=ta2.below hq29
 replace ta1:=ta1.below hq29
 replace T6_0:=T6_0.below hq29
 replace T7:=T7.below hq29
 replace T8:=T8.below hq29
 replace T9:=T9.below hq29
 replace T10_0:=T10_0.below hq29
 replace O7:=O7.below hq29
 replace O8:=O8.below hq29
 replace O9:=O9.below hq29
 replace O10_0:=O10_0.below hq29
 have hy30:=Ext.trans hy28 hq29;refine tK 3 rfl (by kernel_rfl) (fun e=> ?_)
 go_wp2_with fail
 refine(Af a1 a1 _ (T8.below e.h) (T14.below e.h)).mono ?_;rintro _ W15 ⟨rfl,z15⟩
 go_wp2_with fail
 refine aI z15 ?_;have hq31:=Ext.trans e.h z15;have hs31:=hq31.size
 replace k1_0:=k1_0.ext hq31
 replace kx1_0:=kx1_0.ext hq31
 replace ta0:=ta0.below hq31
 replace ta2:=ta2.below hq31
 replace ta1:=ta1.below hq31
 replace T6_0:=T6_0.below hq31
 replace T7:=T7.below hq31
 replace T8:=T8.below hq31
 replace T9:=T9.below hq31
 replace T10_0:=T10_0.below hq31
 replace T14:=T14.below hq31
 replace O7:=O7.below hq31
 replace O8:=O8.below hq31
 replace O9:=O9.below hq31
 replace O10_0:=O10_0.below hq31
 replace O14:=O14.below hq31
 have hy32:=Ext.trans hy30 hq31;refine jd 4 rfl (by kernel_rfl) ?_;go_big_quiet_step (fail);refine wpQuiet_nil ?_;refine FN (by kernel_rfl) (fun e=> ?_);have ee_a2:wS a2 a2=true:=tF a2
 go_wp2_with fail
 refine(I4 a2 _ (ta2.below e.h) hsl2).mono ?_;rintro _ W16 ⟨B16,D16,q16,rfl,z16,T16,O16⟩;have lo16:∀b∈q16,e.to.heap.size≤b∧b<W16.heap.size:=fun b hb=>⟨(O16.2 b hb).1,T16.lt b hb⟩
 have sz16:=e.h.size;have sw16:=(Ext.trans hy32 e.h).size;have hq33:=Ext.trans e.h z16;have hs33:=hq33.size
 replace k1_0:=k1_0.ext hq33
 replace kx1_0:=kx1_0.ext hq33
 replace ta0:=ta0.below hq33
 replace ta2:=ta2.below hq33
 replace ta1:=ta1.below hq33
 replace T6_0:=T6_0.below hq33
 replace T7:=T7.below hq33
 replace T8:=T8.below hq33
 replace T9:=T9.below hq33
 replace T10_0:=T10_0.below hq33
 replace O7:=O7.below hq33
 replace O8:=O8.below hq33
 replace O9:=O9.below hq33
 replace O10_0:=O10_0.below hq33
 have hy34:=Ext.trans hy32 hq33;obtain⟨e,he⟩:∃e:bf W16,W16=e.to:=⟨⟨W16,Below.refl _ _⟩,rfl⟩;rw[he];clear he
 go_wp2_with fail
 refine(G8 a2 a2 _ (T9.below e.h) (T16.below e.h) (by have:=T9.xI;unfold maxLen;omega) (by have:=T9.xI;unfold maxLen;omega)).mono ?_;rintro _ W17 ⟨rfl,z17⟩;have hq35:=Ext.trans e.h z17;have hs35:=hq35.size
 replace k1_0:=k1_0.ext hq35
 replace kx1_0:=kx1_0.ext hq35
 replace ta0:=ta0.below hq35
 replace ta2:=ta2.below hq35
 replace ta1:=ta1.below hq35
 replace T6_0:=T6_0.below hq35
 replace T7:=T7.below hq35
 replace T8:=T8.below hq35
 replace T9:=T9.below hq35
 replace T10_0:=T10_0.below hq35
 replace T16:=T16.below hq35
 replace O7:=O7.below hq35
 replace O8:=O8.below hq35
 replace O9:=O9.below hq35
 replace O10_0:=O10_0.below hq35
 replace O16:=O16.below hq35
 have hy36:=Ext.trans hy34 hq35;obtain⟨e,he⟩:∃e:bf W17,W17=e.to:=⟨⟨W17,Below.refl _ _⟩,rfl⟩;rw[he];clear he
 go_wp2_with fail
 have cb0:cN (a0.flatMap aQ.enc)≤33554432:=by have h1:=dR (f:=aQ.enc) (g:=aQ.wt) aQ.EG a0;have h2:=HL0.out;omega
 have cb1:a1.cnt≤33554432:=by have h1:=aQ.Qx a1;have h2:=HL1.out;omega
 have cb2:cN (a2.flatMap bM)≤33554432:=by have:=ZG a2;omega
 have rb0:cN (r0.flatMap bM)≤1099511627776:=Zby a0 a1 a2 a3 r0 r1 hR.out SM0.out SM1.out hsl2;refine(UK a0 1 _ (T7.below e.h) (O7.below e.h) (by have:=T7.xI;unfold maxLen;omega) (by omega) (by omega)).mono ?_;rintro _ W18 ⟨kx0,rfl,hkx0,M18,f18,V18⟩;have pkx0:0≤kx0:=by have:=hkx0.out;omega
 have hsW18:=f18.size;have hszW18:=e.h.size
 replace k1_0:=k1_0.VX e f18 (by omega) (fun hm=>by have:=lo7 _ hm;omega)
 replace kx1_0:=kx1_0.VX e f18 (by omega) (fun hm=>by have:=lo7 _ hm;omega)
 replace ta0:=T1.VX (ta0.below e.h) f18 (fun y hy hm=>by have h1:=loa0 y hy;have h2:=lo7 y hm;omega)
 replace ta2:=T1.VX (ta2.below e.h) f18 (fun y hy hm=>by have h1:=loa2 y hy;have h2:=lo7 y hm;omega)
 replace ta1:=TN.VX (ta1.below e.h) f18 (fun y hy hm=>by have h1:=loa1 y hy;have h2:=lo7 y hm;omega)
 replace T6_0:=T1.VX (T6_0.below e.h) f18 (fun y hy hm=>by have h1:=lo6_0 y hy;have h2:=lo7 y hm;omega)
 replace O8:=(O8.below e.h).VX f18
 replace T8:=TN.VX (T8.below e.h) f18 (fun y hy hm=>by have h1:=lo8 y hy;have h2:=lo7 y hm;omega)
 replace O9:=(O9.below e.h).VX f18
 replace T9:=T1.VX (T9.below e.h) f18 (fun y hy hm=>by have h1:=lo9 y hy;have h2:=lo7 y hm;omega)
 replace O10_0:=(O10_0.below e.h).VX f18
 replace T10_0:=T1.VX (T10_0.below e.h) f18 (fun y hy hm=>by have h1:=lo10_0 y hy;have h2:=lo7 y hm;omega)
 have hB18:Ext w W18:=Below.trans (Ext.trans hy36 e.h) (oM.below f18 (Ext.trans hy36 e.h).size (fun y hm=>by have:=lo7 y hm;have:=(Ext.trans hy36 e.h).size;omega));obtain⟨e,he⟩:∃e:bf W18,W18=e.to:=⟨⟨W18,Below.refl _ _⟩,rfl⟩;rw[he];clear he;have bdkx0:kx0≤36028797018963968:=by have:=hkx0.out;omega
 go_wp2_with fail
 refine(VP a1 kx0 _ (T8.below e.h) (O8.below e.h) (by omega) (by omega)).mono ?_;rintro _ W19 ⟨kx1,rfl,hkx1,M19,f19,V19⟩;have pkx1:0≤kx1:=by have:=hkx1.out;omega
 have hsW19:=f19.size;have hszW19:=e.h.size
 replace k1_0:=k1_0.VX e f19 (by omega) (fun hm=>by have:=lo8 _ hm;omega)
 replace kx1_0:=kx1_0.VX e f19 (by omega) (fun hm=>by have:=lo8 _ hm;omega)
 replace ta0:=T1.VX (ta0.below e.h) f19 (fun y hy hm=>by have h1:=loa0 y hy;have h2:=lo8 y hm;omega)
 replace ta2:=T1.VX (ta2.below e.h) f19 (fun y hy hm=>by have h1:=loa2 y hy;have h2:=lo8 y hm;omega)
 replace ta1:=TN.VX (ta1.below e.h) f19 (fun y hy hm=>by have h1:=loa1 y hy;have h2:=lo8 y hm;omega)
 replace T6_0:=T1.VX (T6_0.below e.h) f19 (fun y hy hm=>by have h1:=lo6_0 y hy;have h2:=lo8 y hm;omega)
 replace O9:=(O9.below e.h).VX f19
 replace T9:=T1.VX (T9.below e.h) f19 (fun y hy hm=>by have h1:=lo9 y hy;have h2:=lo8 y hm;omega)
 replace O10_0:=(O10_0.below e.h).VX f19
 replace T10_0:=T1.VX (T10_0.below e.h) f19 (fun y hy hm=>by have h1:=lo10_0 y hy;have h2:=lo8 y hm;omega)
 have hB19:Ext w W19:=Below.trans (Ext.trans hB18 e.h) (oM.below f19 (Ext.trans hB18 e.h).size (fun y hm=>by have:=lo8 y hm;have:=(Ext.trans hB18 e.h).size;omega));obtain⟨e,he⟩:∃e:bf W19,W19=e.to:=⟨⟨W19,Below.refl _ _⟩,rfl⟩;rw[he];clear he;have bdkx1:kx1≤72057594037927936:=by have:=hkx1.out;omega
 go_wp2_with fail
 refine(Dc a2 kx1 _ (T9.below e.h) (O9.below e.h) (by have:=T9.xI;unfold maxLen;omega) (by omega) (by omega)).mono ?_;rintro _ W20 ⟨kx2,rfl,hkx2,M20,f20,V20⟩;have pkx2:0≤kx2:=by have:=hkx2.out;omega
 have hsW20:=f20.size;have hszW20:=e.h.size
 replace k1_0:=k1_0.VX e f20 (by omega) (fun hm=>by have:=lo9 _ hm;omega)
 replace kx1_0:=kx1_0.VX e f20 (by omega) (fun hm=>by have:=lo9 _ hm;omega)
 replace ta0:=T1.VX (ta0.below e.h) f20 (fun y hy hm=>by have h1:=loa0 y hy;have h2:=lo9 y hm;omega)
 replace ta2:=T1.VX (ta2.below e.h) f20 (fun y hy hm=>by have h1:=loa2 y hy;have h2:=lo9 y hm;omega)
 replace ta1:=TN.VX (ta1.below e.h) f20 (fun y hy hm=>by have h1:=loa1 y hy;have h2:=lo9 y hm;omega)
 replace T6_0:=T1.VX (T6_0.below e.h) f20 (fun y hy hm=>by have h1:=lo6_0 y hy;have h2:=lo9 y hm;omega)
 replace O10_0:=(O10_0.below e.h).VX f20
 replace T10_0:=T1.VX (T10_0.below e.h) f20 (fun y hy hm=>by have h1:=lo10_0 y hy;have h2:=lo9 y hm;omega)
 have hB20:Ext w W20:=Below.trans (Ext.trans hB19 e.h) (oM.below f20 (Ext.trans hB19 e.h).size (fun y hm=>by have:=lo9 y hm;have:=(Ext.trans hB19 e.h).size;omega));obtain⟨e,he⟩:∃e:bf W20,W20=e.to:=⟨⟨W20,Below.refl _ _⟩,rfl⟩;rw[he];clear he;have bdkx2:kx2≤108086391056891904:=by have:=hkx2.out;omega
 go_wp2_with fail
 refine(G8 r0 r0 _ (T10_0.below e.h) (T6_0.below e.h) (by have:=T10_0.xI;unfold maxLen;omega) (by have:=T10_0.xI;unfold maxLen;omega)).mono ?_;rintro _ W21 ⟨rfl,z21⟩;have hq37:=Ext.trans e.h z21;have hs37:=hq37.size
 replace k1_0:=k1_0.ext hq37
 replace kx1_0:=kx1_0.ext hq37
 replace ta0:=ta0.below hq37
 replace ta2:=ta2.below hq37
 replace ta1:=ta1.below hq37
 replace T6_0:=T6_0.below hq37
 replace T10_0:=T10_0.below hq37
 replace O10_0:=O10_0.below hq37
 have hy38:=Ext.trans hB20 hq37;obtain⟨e,he⟩:∃e:bf W21,W21=e.to:=⟨⟨W21,Below.refl _ _⟩,rfl⟩;rw[he];clear he
 go_wp2_with fail
 refine(Dc r0 1 _ (T10_0.below e.h) (O10_0.below e.h) (by have:=T10_0.xI;unfold maxLen;omega) (by omega) (by omega)).mono ?_;rintro _ W22 ⟨mg0,rfl,hmg0,M22,f22,V22⟩;have pmg0:0≤mg0:=by have:=hmg0.out;omega
 have hsW22:=f22.size;have hszW22:=e.h.size
 replace k1_0:=k1_0.VX e f22 (by omega) (fun hm=>by have:=lo10_0 _ hm;omega)
 replace kx1_0:=kx1_0.VX e f22 (by omega) (fun hm=>by have:=lo10_0 _ hm;omega)
 replace ta0:=T1.VX (ta0.below e.h) f22 (fun y hy hm=>by have h1:=loa0 y hy;have h2:=lo10_0 y hm;omega)
 replace ta2:=T1.VX (ta2.below e.h) f22 (fun y hy hm=>by have h1:=loa2 y hy;have h2:=lo10_0 y hm;omega)
 replace ta1:=TN.VX (ta1.below e.h) f22 (fun y hy hm=>by have h1:=loa1 y hy;have h2:=lo10_0 y hm;omega)
 replace T6_0:=T1.VX (T6_0.below e.h) f22 (fun y hy hm=>by have h1:=lo6_0 y hy;have h2:=lo10_0 y hm;omega)
 have hB22:Ext w W22:=Below.trans (Ext.trans hy38 e.h) (oM.below f22 (Ext.trans hy38 e.h).size (fun y hm=>by have:=lo10_0 y hm;have:=(Ext.trans hy38 e.h).size;omega));obtain⟨e,he⟩:∃e:bf W22,W22=e.to:=⟨⟨W22,Below.refl _ _⟩,rfl⟩;rw[he];clear he;have bdmg0:mg0≤144115188075855872:=by have:=hmg0.out;omega
 have O10_0:=V22;have CH0:Hid (QC Tryz.prog W22 _ _ _):=fun W hW=>CQ r0 1 mg0 r0.length W (M22.below hW) jy (by omega) (by omega) hmg0
 go_wp2_with (first|(go_at_call 25;with_reducible refine(CH0.out.at_ _).mono ?_;rintro _ _ ⟨rfl,e,rfl⟩))
 clear CH0
 go_wp2_with fail
 refine wN _ (by kernel_rfl) 13 (by kernel_rfl) ?_;refine jd 0 rfl (by kernel_rfl) ?_;go_big_quiet_step (fail);refine wpQuiet_nil ?_;refine jd 2 rfl (by kernel_rfl) ?_;go_big_quiet_step (fail);refine wpQuiet_nil ?_;refine jd 4 rfl (by kernel_rfl) ?_;go_big_quiet_step (fail);refine wpQuiet_nil ?_;refine jd 6 rfl (by kernel_rfl) ?_;go_big_quiet_step (fail);refine wpQuiet_nil ?_;refine tK 1 rfl (by kernel_rfl) (fun e=> ?_)
 go_wp2_with fail
 refine(yK a0 _ (ta0.below e.h) SM0.out).mono ?_;rintro _ W23 ⟨B23,D23,q23,rfl,z23,T23,O23⟩;have lo23:∀b∈q23,e.to.heap.size≤b∧b<W23.heap.size:=fun b hb=>⟨(O23.2 b hb).1,T23.lt b hb⟩
 have sz23:=e.h.size;have sw23:=(Ext.trans hB22 e.h).size
 go_wp2_with fail
 refine aI z23 ?_;have hq39:=Ext.trans e.h z23;have hs39:=hq39.size
 replace k1_0:=k1_0.ext hq39
 replace kx1_0:=kx1_0.ext hq39
 replace ta0:=ta0.below hq39
 replace ta2:=ta2.below hq39
 replace ta1:=ta1.below hq39
 replace T6_0:=T6_0.below hq39
 replace M22:=M22.below hq39
 replace O10_0:=O10_0.below hq39
 have hy40:=Ext.trans hB22 hq39;refine tK 3 rfl (by kernel_rfl) (fun e=> ?_)
 go_wp2_with fail
 refine(xD a1 _ (ta1.below e.h) SM1.out).mono ?_;rintro _ W24 ⟨_,q24,rfl,z24,T24,O24⟩;obtain⟨_,_,_,rfl, -⟩:=aQ.us T24;have lo24:∀b∈q24,e.to.heap.size≤b∧b<W24.heap.size:=fun b hb=>⟨(O24.2 b hb).1,T24.lt b hb⟩
 have sz24:=e.h.size;have sw24:=(Ext.trans hy40 e.h).size
 go_wp2_with fail
 refine aI z24 ?_;have hq41:=Ext.trans e.h z24;have hs41:=hq41.size
 replace k1_0:=k1_0.ext hq41
 replace kx1_0:=kx1_0.ext hq41
 replace ta0:=ta0.below hq41
 replace ta2:=ta2.below hq41
 replace ta1:=ta1.below hq41
 replace T6_0:=T6_0.below hq41
 replace M22:=M22.below hq41
 replace T23:=T23.below hq41
 replace O10_0:=O10_0.below hq41
 replace O23:=O23.below hq41
 have hy42:=Ext.trans hy40 hq41;refine tK 5 rfl (by kernel_rfl) (fun e=> ?_)
 go_wp2_with fail
 refine(I4 a2 _ (ta2.below e.h) hsl2).mono ?_;rintro _ W25 ⟨B25,D25,q25,rfl,z25,T25,O25⟩;have lo25:∀b∈q25,e.to.heap.size≤b∧b<W25.heap.size:=fun b hb=>⟨(O25.2 b hb).1,T25.lt b hb⟩
 have sz25:=e.h.size;have sw25:=(Ext.trans hy42 e.h).size
 go_wp2_with fail
 refine aI z25 ?_;have hq43:=Ext.trans e.h z25;have hs43:=hq43.size
 replace k1_0:=k1_0.ext hq43
 replace kx1_0:=kx1_0.ext hq43
 replace ta0:=ta0.below hq43
 replace ta2:=ta2.below hq43
 replace ta1:=ta1.below hq43
 replace T6_0:=T6_0.below hq43
 replace M22:=M22.below hq43
 replace T23:=T23.below hq43
 replace T24:=T24.below hq43
 replace O10_0:=O10_0.below hq43
 replace O23:=O23.below hq43
 replace O24:=O24.below hq43
 have hy44:=Ext.trans hy42 hq43;refine tK 7 rfl (by kernel_rfl) (fun e=> ?_)
 go_wp2_with fail
 refine(Zbv a0 a1 a2 a3 r0 r1 hR _ (T23.below e.h) (T24.below e.h) (T25.below e.h)).mono ?_;rintro _ W26 ⟨B26_0,D26_0,q26_0,rfl,z26,T26_0,O26⟩;have O26_0:=O26;have lo26_0:∀b∈q26_0,e.to.heap.size≤b∧b<W26.heap.size:=fun b hb=>⟨(O26_0.2 b hb).1,T26_0.lt b hb⟩
 have sz26:=e.h.size;have sw26:=(Ext.trans hy44 e.h).size
 go_wp2_with fail
 refine aI z26 ?_;have hq45:=Ext.trans e.h z26;have hs45:=hq45.size
 replace k1_0:=k1_0.ext hq45
 replace kx1_0:=kx1_0.ext hq45
 replace ta0:=ta0.below hq45
 replace ta2:=ta2.below hq45
 replace ta1:=ta1.below hq45
 replace T6_0:=T6_0.below hq45
 replace M22:=M22.below hq45
 replace T23:=T23.below hq45
 replace T24:=T24.below hq45
 replace T25:=T25.below hq45
 replace O10_0:=O10_0.below hq45
 replace O23:=O23.below hq45
 replace O24:=O24.below hq45
 replace O25:=O25.below hq45
 have hy46:=Ext.trans hy44 hq45;refine jd 8 rfl (by kernel_rfl) ?_;go_big_quiet_step (fail);refine wpQuiet_nil ?_;refine jd 9 rfl (by kernel_rfl) ?_;go_big_quiet_step (fail);refine wpQuiet_nil ?_;refine jd 10 rfl (by kernel_rfl) ?_;go_big_quiet_step (fail);refine wpQuiet_nil ?_;refine jd 11 rfl (by kernel_rfl) ?_;go_big_quiet_step (fail);refine wpQuiet_nil ?_;refine jd 12 rfl (by kernel_rfl) ?_;go_big_quiet_step (fail);refine wpQuiet_nil ?_;refine FN (by kernel_rfl) (fun e=> ?_)
 go_wp2_with fail
 refine(G8 r0 r0 _ (T26_0.below e.h) (T6_0.below e.h) (by have:=T26_0.xI;unfold maxLen;omega) (by have:=T26_0.xI;unfold maxLen;omega)).mono ?_;rintro _ W27 ⟨rfl,z27⟩;have hq47:=Ext.trans e.h z27;have hs47:=hq47.size
 replace k1_0:=k1_0.ext hq47
 replace kx1_0:=kx1_0.ext hq47
 replace ta0:=ta0.below hq47
 replace ta2:=ta2.below hq47
 replace ta1:=ta1.below hq47
 replace T6_0:=T6_0.below hq47
 replace M22:=M22.below hq47
 replace T26_0:=T26_0.below hq47
 replace O10_0:=O10_0.below hq47
 replace O26_0:=O26_0.below hq47
 have hy48:=Ext.trans hy46 hq47;obtain⟨e,he⟩:∃e:bf W27,W27=e.to:=⟨⟨W27,Below.refl _ _⟩,rfl⟩;rw[he];clear he;have CH0:Hid (QC Tryz.prog W27 _ _ _):=fun W hW=>CQ r0 1 mg0 r0.length W (M22.below hW) jy (by omega) (by omega) hmg0
 go_wp2_with (first|(go_at_call 25;with_reducible refine(CH0.out.at_ _).mono ?_;rintro _ _ ⟨rfl,e,rfl⟩))
 clear CH0
 go_wp2_with fail
 go_ret;exact⟨rfl,bf.old hy48 e⟩
end Go.Proofs.YtjijpkphkicoeaaGreat
