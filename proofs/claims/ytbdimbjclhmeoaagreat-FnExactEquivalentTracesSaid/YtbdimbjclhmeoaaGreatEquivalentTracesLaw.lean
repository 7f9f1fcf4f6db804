
/- The law FnExactEquivalentTraces, walked. Printed by gen_law.py. -/
import Derived.Test.YtbdimbjclhmeoaaGreatEqvBoth
import Derived.Test.YtbdimbjclhmeoaaGreatZEv
set_option linter.unusedSimpArgs false
set_option linter.unusedVariables false
namespace Go.Proofs.YtbdimbjclhmeoaaGreat
open Go Go.RowKit Go.Proofs Go.Tr
set_option maxRecDepth 100000 in
set_option maxHeartbeats 16000000 in
theorem Zcf(a0:(List bC)){A0:Option Addr}{c0:Nat}{p0:dF}(a1:bC){p1:dF}{u1:bW}(a2:(List aM)){A2:Option Addr}{c2:Nat}{p2:dF}(a3:(List aM)){A3:Option Addr}{c3:Nat}{p3:dF}(w:World)(ta0:T1 w (.sl a0.length (a0.flatMap bC.enc)) p0 (.slice A0 a0.length c0))(ta1:TN w a1.enc p1 u1)(ta2:T1 w (.sl a2.length (a2.flatMap aM.enc)) p2 (.slice A2 a2.length c2))(ta3:T1 w (.sl a3.length (a3.flatMap aM.enc)) p3 (.slice A3 a3.length c3)):Calls Tryz.prog 5 #[.slice A0 a0.length c0,.agg u1.toArray,.slice A2 a2.length c2,.slice A3 a3.length c3] w fun e w'=>e=.returned (.bool (true))/\Ext w w':=by
 refine fD fun e=> ?_
 obtain⟨⟨r0,r1⟩,hR0⟩:∃R,R=Zb8 a0 a1 a2 a3:=⟨_,rfl⟩;have hR:=Lib.hid hR0;clear hR0;obtain⟨_,_,_,rfl, -⟩:=bC.us (x:=a1) ta1;have loa1:∀b∈p1,0<=b/\b<w.heap.size:=fun b hb=>⟨Nat.zero_le _,ta1.lt b hb⟩
 have loa0:∀b∈p0,0<=b/\b<w.heap.size:=fun b hb=>⟨Nat.zero_le _,ta0.lt b hb⟩
 have loa2:∀b∈p2,0<=b/\b<w.heap.size:=fun b hb=>⟨Nat.zero_le _,ta2.lt b hb⟩
 have loa3:∀b∈p3,0<=b/\b<w.heap.size:=fun b hb=>⟨Nat.zero_le _,ta3.lt b hb⟩
 have hna0:=ta0.JE;have hna2:=ta2.JE;have hna3:=ta3.JE
 go_enter Tryz.func5,Tryz.ntmps5
 go_upto_region 1 with(fail)
 generalize hgg1:e.to.heap.size=g1;refine E9 e hgg1 (fun w1 e hx1 hgeg1 hltg1 cg1=> ?_);clear hgg1
 replace ta0:=ta0.below hx1
 replace ta2:=ta2.below hx1
 replace ta3:=ta3.below hx1
 replace ta1:=ta1.below hx1
 have k1_0:=cg1.always hltg1 0 _ rfl;simp only[Nat.zero_add]at k1_0;clear cg1
 go_wp2_with fail
 refine(Oc a0 1048576 _ (ta0.below e.h) (by unfold maxLen;omega) (by omega) (by omega)).mono ?_;rintro _ W1 ⟨z1,L0,rfl,hr0⟩;have hq2:=Ext.trans e.h z1;have hs2:=hq2.size
 replace k1_0:=k1_0.ext hq2
 replace ta0:=ta0.below hq2
 replace ta2:=ta2.below hq2
 replace ta3:=ta3.below hq2
 replace ta1:=ta1.below hq2
 have hy3:=Ext.trans hx1 hq2;obtain⟨e,he⟩:∃e:bL W1,W1=e.to:=⟨⟨W1,Below.refl _ _⟩,rfl⟩;rw[he];clear he;rcases hr0 with rfl|⟨hr0_0,hr1_0,sm0⟩
 case inl=>
  go_wp2_with fail
  go_ret;exact⟨rfl,bL.old hy3 e⟩
 have hr2_0:L0<=1048576:=by omega
 have SM0:=Lib.hid sm0;have HL0:=Lib.hid hr1_0;clear sm0 hr1_0
 go_wp2_with fail
 obtain⟨_,_,_, -, -, -,nl1_0,ml1_0⟩:=bC.us (x:=a1) (TN.below ta1 e.h);refine(Iq a1 L0 _ (ta1.below e.h) (Nat.le_trans nl1_0 ml1_0) (by omega) (by omega)).mono ?_;rintro _ W2 ⟨z2,L1,rfl,hr1⟩;have hq4:=Ext.trans e.h z2;have hs4:=hq4.size
 replace k1_0:=k1_0.ext hq4
 replace ta0:=ta0.below hq4
 replace ta2:=ta2.below hq4
 replace ta3:=ta3.below hq4
 replace ta1:=ta1.below hq4
 have hy5:=Ext.trans hy3 hq4;obtain⟨e,he⟩:∃e:bL W2,W2=e.to:=⟨⟨W2,Below.refl _ _⟩,rfl⟩;rw[he];clear he;rcases hr1 with rfl|⟨hr0_1,hr1_1,sm1⟩
 case inl=>
  go_wp2_with fail
  go_ret;exact⟨rfl,bL.old hy5 e⟩
 have hr2_1:L1<=1048576:=by omega
 have SM1:=Lib.hid sm1;have HL1:=Lib.hid hr1_1;clear sm1 hr1_1
 go_wp2_with fail
 refine(JZ a2 L1 _ (ta2.below e.h) (by unfold maxLen;omega) (by omega) (by omega)).mono ?_;rintro _ W3 ⟨z3,L2,rfl,hr2⟩;have hq6:=Ext.trans e.h z3;have hs6:=hq6.size
 replace k1_0:=k1_0.ext hq6
 replace ta0:=ta0.below hq6
 replace ta2:=ta2.below hq6
 replace ta3:=ta3.below hq6
 replace ta1:=ta1.below hq6
 have hy7:=Ext.trans hy5 hq6;obtain⟨e,he⟩:∃e:bL W3,W3=e.to:=⟨⟨W3,Below.refl _ _⟩,rfl⟩;rw[he];clear he;rcases hr2 with rfl|⟨hr0_2,hr1_2,sm2⟩
 case inl=>
  go_wp2_with fail
  go_ret;exact⟨rfl,bL.old hy7 e⟩
 have hr2_2:L2<=1048576:=by omega
 have SM2:=Lib.hid sm2;have HL2:=Lib.hid hr1_2;clear sm2 hr1_2
 go_wp2_with fail
 refine(JZ a3 L2 _ (ta3.below e.h) (by unfold maxLen;omega) (by omega) (by omega)).mono ?_;rintro _ W4 ⟨z4,L3,rfl,hr3⟩;have hq8:=Ext.trans e.h z4;have hs8:=hq8.size
 replace k1_0:=k1_0.ext hq8
 replace ta0:=ta0.below hq8
 replace ta2:=ta2.below hq8
 replace ta3:=ta3.below hq8
 replace ta1:=ta1.below hq8
 have hy9:=Ext.trans hy7 hq8;obtain⟨e,he⟩:∃e:bL W4,W4=e.to:=⟨⟨W4,Below.refl _ _⟩,rfl⟩;rw[he];clear he;rcases hr3 with rfl|⟨hr0_3,hr1_3,sm3⟩
 case inl=>
  go_wp2_with fail
  go_ret;exact⟨rfl,bL.old hy9 e⟩
 have hr2_3:L3<=1048576:=by omega
 have SM3:=Lib.hid sm3;have HL3:=Lib.hid hr1_3;clear sm3 hr1_3
 go_wp2_with fail
 refine rW _ (by kernel_rfl) 14 (by kernel_rfl) ?_;refine eu 0 rfl (by kernel_rfl) ?_;go_big_quiet_step (fail);refine wpQuiet_nil ?_;refine eu 2 rfl (by kernel_rfl) ?_;go_big_quiet_step (fail);refine wpQuiet_nil ?_;refine eu 4 rfl (by kernel_rfl) ?_;go_big_quiet_step (fail);refine wpQuiet_nil ?_;refine eu 6 rfl (by kernel_rfl) ?_;go_big_quiet_step (fail);refine wpQuiet_nil ?_;refine jE 1 rfl (by kernel_rfl) (fun e=> ?_)
 go_wp2_with fail
 refine(vQ a0 _ (ta0.below e.h) SM0.out).mono ?_;rintro _ W5 ⟨B5,D5,q5,rfl,z5,T5,O5⟩;have lo5:∀b∈q5,e.to.heap.size<=b/\b<W5.heap.size:=fun b hb=>⟨(O5.2 b hb).1,T5.lt b hb⟩
 have sz5:=e.h.size;have sw5:=(Ext.trans hy9 e.h).size
 go_wp2_with fail
 refine aI z5 ?_;have hq10:=Ext.trans e.h z5;have hs10:=hq10.size
 replace k1_0:=k1_0.ext hq10
 replace ta0:=ta0.below hq10
 replace ta2:=ta2.below hq10
 replace ta3:=ta3.below hq10
 replace ta1:=ta1.below hq10
 have hy11:=Ext.trans hy9 hq10;refine jE 3 rfl (by kernel_rfl) (fun e=> ?_)
 go_wp2_with fail
 refine(uM a1 _ (ta1.below e.h) SM1.out).mono ?_;rintro _ W6 ⟨_,q6,rfl,z6,T6,O6⟩;obtain⟨_,_,_,rfl, -⟩:=bC.us T6;have lo6:∀b∈q6,e.to.heap.size<=b/\b<W6.heap.size:=fun b hb=>⟨(O6.2 b hb).1,T6.lt b hb⟩
 have sz6:=e.h.size;have sw6:=(Ext.trans hy11 e.h).size
 go_wp2_with fail
 refine aI z6 ?_;have hq12:=Ext.trans e.h z6;have hs12:=hq12.size
 replace k1_0:=k1_0.ext hq12
 replace ta0:=ta0.below hq12
 replace ta2:=ta2.below hq12
 replace ta3:=ta3.below hq12
 replace ta1:=ta1.below hq12
 replace T5:=T5.below hq12
 replace O5:=O5.below hq12
 have hy13:=Ext.trans hy11 hq12;refine jE 5 rfl (by kernel_rfl) (fun e=> ?_)
 go_wp2_with fail
 refine(pW a2 _ (ta2.below e.h) SM2.out).mono ?_;rintro _ W7 ⟨B7,D7,q7,rfl,z7,T7,O7⟩;have lo7:∀b∈q7,e.to.heap.size<=b/\b<W7.heap.size:=fun b hb=>⟨(O7.2 b hb).1,T7.lt b hb⟩
 have sz7:=e.h.size;have sw7:=(Ext.trans hy13 e.h).size
 go_wp2_with fail
 refine aI z7 ?_;have hq14:=Ext.trans e.h z7;have hs14:=hq14.size
 replace k1_0:=k1_0.ext hq14
 replace ta0:=ta0.below hq14
 replace ta2:=ta2.below hq14
 replace ta3:=ta3.below hq14
 replace ta1:=ta1.below hq14
 replace T5:=T5.below hq14
 replace T6:=T6.below hq14
 replace O5:=O5.below hq14
 replace O6:=O6.below hq14
 have hy15:=Ext.trans hy13 hq14;refine jE 7 rfl (by kernel_rfl) (fun e=> ?_)
 go_wp2_with fail
 refine(pW a3 _ (ta3.below e.h) SM3.out).mono ?_;rintro _ W8 ⟨B8,D8,q8,rfl,z8,T8,O8⟩;have lo8:∀b∈q8,e.to.heap.size<=b/\b<W8.heap.size:=fun b hb=>⟨(O8.2 b hb).1,T8.lt b hb⟩
 have sz8:=e.h.size;have sw8:=(Ext.trans hy15 e.h).size
 go_wp2_with fail
 refine aI z8 ?_;have hq16:=Ext.trans e.h z8;have hs16:=hq16.size
 replace k1_0:=k1_0.ext hq16
 replace ta0:=ta0.below hq16
 replace ta2:=ta2.below hq16
 replace ta3:=ta3.below hq16
 replace ta1:=ta1.below hq16
 replace T5:=T5.below hq16
 replace T6:=T6.below hq16
 replace T7:=T7.below hq16
 replace O5:=O5.below hq16
 replace O6:=O6.below hq16
 replace O7:=O7.below hq16
 have hy17:=Ext.trans hy15 hq16;refine jE 8 rfl (by kernel_rfl) (fun e=> ?_)
 go_wp2_with fail
 refine(Zcc a0 a1 a2 a3 r0 r1 hR _ (T5.below e.h) (T6.below e.h) (T7.below e.h) (T8.below e.h)).mono ?_;rintro _ W9 ⟨rfl,z9⟩;have sz9:=e.h.size;have sw9:=(Ext.trans hy17 e.h).size
 go_wp2_with fail
 refine aI z9 ?_;have hq18:=Ext.trans e.h z9;have hs18:=hq18.size
 replace k1_0:=k1_0.ext hq18
 replace ta0:=ta0.below hq18
 replace ta2:=ta2.below hq18
 replace ta3:=ta3.below hq18
 replace ta1:=ta1.below hq18
 replace T5:=T5.below hq18
 replace T6:=T6.below hq18
 replace T7:=T7.below hq18
 replace T8:=T8.below hq18
 replace O5:=O5.below hq18
 replace O6:=O6.below hq18
 replace O7:=O7.below hq18
 replace O8:=O8.below hq18
 have hy19:=Ext.trans hy17 hq18;refine eu 9 rfl (by kernel_rfl) ?_;go_big_quiet_step (fail);refine wpQuiet_nil ?_;refine eu 10 rfl (by kernel_rfl) ?_;go_big_quiet_step (fail);refine wpQuiet_nil ?_;refine eu 11 rfl (by kernel_rfl) ?_;go_big_quiet_step (fail);refine wpQuiet_nil ?_;refine eu 12 rfl (by kernel_rfl) ?_;go_big_quiet_step (fail);refine wpQuiet_nil ?_;refine eu 13 rfl (by kernel_rfl) ?_;go_big_quiet_step (fail);refine wpQuiet_nil ?_;refine Bj (by kernel_rfl) (fun e=> ?_)
 go_wp2_with fail
 refine(vQ a0 _ (ta0.below e.h) SM0.out).mono ?_;rintro _ W10 ⟨B10,D10,q10,rfl,z10,T10,O10⟩;have lo10:∀b∈q10,e.to.heap.size<=b/\b<W10.heap.size:=fun b hb=>⟨(O10.2 b hb).1,T10.lt b hb⟩
 have sz10:=e.h.size;have sw10:=(Ext.trans hy19 e.h).size;have hq20:=Ext.trans e.h z10;have hs20:=hq20.size
 replace k1_0:=k1_0.ext hq20
 replace ta0:=ta0.below hq20
 replace ta2:=ta2.below hq20
 replace ta3:=ta3.below hq20
 replace ta1:=ta1.below hq20
 have hy21:=Ext.trans hy19 hq20;obtain⟨e,he⟩:∃e:bL W10,W10=e.to:=⟨⟨W10,Below.refl _ _⟩,rfl⟩;rw[he];clear he
 go_wp2_with fail
 refine(uM a1 _ (ta1.below e.h) SM1.out).mono ?_;rintro _ W11 ⟨_,q11,rfl,z11,T11,O11⟩;obtain⟨_,_,_,rfl, -⟩:=bC.us T11;have lo11:∀b∈q11,e.to.heap.size<=b/\b<W11.heap.size:=fun b hb=>⟨(O11.2 b hb).1,T11.lt b hb⟩
 have sz11:=e.h.size;have sw11:=(Ext.trans hy21 e.h).size;have hq22:=Ext.trans e.h z11;have hs22:=hq22.size
 replace k1_0:=k1_0.ext hq22
 replace ta0:=ta0.below hq22
 replace ta2:=ta2.below hq22
 replace ta3:=ta3.below hq22
 replace ta1:=ta1.below hq22
 replace T10:=T10.below hq22
 replace O10:=O10.below hq22
 have hy23:=Ext.trans hy21 hq22;obtain⟨e,he⟩:∃e:bL W11,W11=e.to:=⟨⟨W11,Below.refl _ _⟩,rfl⟩
 go_upto_region 17 with(fail)
 clear he;generalize hggx1:e.to.heap.size=gx1;refine E9 e hggx1 (fun w24 e hx24 hgegx1 hltgx1 cgx1=> ?_);clear hggx1
 replace k1_0:=k1_0.ext hx24
 replace ta0:=ta0.below hx24
 replace ta2:=ta2.below hx24
 replace ta3:=ta3.below hx24
 replace ta1:=ta1.below hx24
 replace T10:=T10.below hx24
 replace T11:=T11.below hx24
 replace O10:=O10.below hx24
 replace O11:=O11.below hx24
 have hy24:=Ext.trans hy23 hx24;have hs_gx1:=hx24.size;have kx1_0:=cgx1.always hltgx1 0 _ rfl;simp only[Nat.zero_add]at kx1_0;clear cgx1
 go_wp2_with fail
 refine(pW a2 _ (ta2.below e.h) SM2.out).mono ?_;rintro _ W12 ⟨B12,D12,q12,rfl,z12,T12,O12⟩;have lo12:∀b∈q12,e.to.heap.size<=b/\b<W12.heap.size:=fun b hb=>⟨(O12.2 b hb).1,T12.lt b hb⟩
 have sz12:=e.h.size;have sw12:=(Ext.trans hy24 e.h).size;have hq25:=Ext.trans e.h z12;have hs25:=hq25.size
 replace k1_0:=k1_0.ext hq25
 replace kx1_0:=kx1_0.ext hq25
 replace ta0:=ta0.below hq25
 replace ta2:=ta2.below hq25
 replace ta3:=ta3.below hq25
 replace ta1:=ta1.below hq25
 replace T10:=T10.below hq25
 replace T11:=T11.below hq25
 replace O10:=O10.below hq25
 replace O11:=O11.below hq25
 have hy26:=Ext.trans hy24 hq25;obtain⟨e,he⟩:∃e:bL W12,W12=e.to:=⟨⟨W12,Below.refl _ _⟩,rfl⟩;rw[he];clear he
 go_wp2_with fail
 refine(pW a3 _ (ta3.below e.h) SM3.out).mono ?_;rintro _ W13 ⟨B13,D13,q13,rfl,z13,T13,O13⟩;have lo13:∀b∈q13,e.to.heap.size<=b/\b<W13.heap.size:=fun b hb=>⟨(O13.2 b hb).1,T13.lt b hb⟩
 have sz13:=e.h.size;have sw13:=(Ext.trans hy26 e.h).size;have hq27:=Ext.trans e.h z13;have hs27:=hq27.size
 replace k1_0:=k1_0.ext hq27
 replace kx1_0:=kx1_0.ext hq27
 replace ta0:=ta0.below hq27
 replace ta2:=ta2.below hq27
 replace ta3:=ta3.below hq27
 replace ta1:=ta1.below hq27
 replace T10:=T10.below hq27
 replace T11:=T11.below hq27
 replace T12:=T12.below hq27
 replace O10:=O10.below hq27
 replace O11:=O11.below hq27
 replace O12:=O12.below hq27
 have hy28:=Ext.trans hy26 hq27;obtain⟨e,he⟩:∃e:bL W13,W13=e.to:=⟨⟨W13,Below.refl _ _⟩,rfl⟩;rw[he];clear he
 go_wp2_with fail
 refine(Zcb a0 a1 a2 a3 r0 r1 hR _ (T10.below e.h) (T11.below e.h) (T12.below e.h) (T13.below e.h)).mono ?_;rintro _ W14 ⟨rfl,z14⟩;have sz14:=e.h.size;have sw14:=(Ext.trans hy28 e.h).size;have hq29:=Ext.trans e.h z14;have hs29:=hq29.size
 replace k1_0:=k1_0.ext hq29
 replace kx1_0:=kx1_0.ext hq29
 replace ta0:=ta0.below hq29
 replace ta2:=ta2.below hq29
 replace ta3:=ta3.below hq29
 replace ta1:=ta1.below hq29
 replace T10:=T10.below hq29
 replace T11:=T11.below hq29
 replace T12:=T12.below hq29
 replace T13:=T13.below hq29
 replace O10:=O10.below hq29
 replace O11:=O11.below hq29
 replace O12:=O12.below hq29
 replace O13:=O13.below hq29
 have hy30:=Ext.trans hy28 hq29;obtain⟨e,he⟩:∃e:bL W14,W14=e.to:=⟨⟨W14,Below.refl _ _⟩,rfl⟩;rw[he];clear he;have en0:(r0 !=r0)=false:=bne_self_eq_false r0;have ee0:(r0==r0)=true:=beq_self_eq_true r0;have en1:(r1 !=r1)=false:=bne_self_eq_false r1;have ee1:(r1==r1)=true:=beq_self_eq_true r1;have ee_a0:yE a0 a0=true:=ow a0
 go_wp2_with fail
 refine(vQ a0 _ (ta0.below e.h) SM0.out).mono ?_;rintro _ W15 ⟨B15,D15,q15,rfl,z15,T15,O15⟩;have lo15:∀b∈q15,e.to.heap.size<=b/\b<W15.heap.size:=fun b hb=>⟨(O15.2 b hb).1,T15.lt b hb⟩
 have sz15:=e.h.size;have sw15:=(Ext.trans hy30 e.h).size;have hq31:=Ext.trans e.h z15;have hs31:=hq31.size
 replace k1_0:=k1_0.ext hq31
 replace kx1_0:=kx1_0.ext hq31
 replace ta0:=ta0.below hq31
 replace ta2:=ta2.below hq31
 replace ta3:=ta3.below hq31
 replace ta1:=ta1.below hq31
 replace T10:=T10.below hq31
 replace T11:=T11.below hq31
 replace T12:=T12.below hq31
 replace T13:=T13.below hq31
 replace O10:=O10.below hq31
 replace O11:=O11.below hq31
 replace O12:=O12.below hq31
 replace O13:=O13.below hq31
 have hy32:=Ext.trans hy30 hq31;obtain⟨e,he⟩:∃e:bL W15,W15=e.to:=⟨⟨W15,Below.refl _ _⟩,rfl⟩;rw[he];clear he
 go_wp2_with fail
 refine(MW a0 a0 _ (T10.below e.h) (T15.below e.h) (by have:=T10.JE;unfold maxLen;omega) (by have:=T10.JE;unfold maxLen;omega)).mono ?_;rintro _ W16 ⟨rfl,z16⟩;have hq33:=Ext.trans e.h z16;have hs33:=hq33.size
 replace k1_0:=k1_0.ext hq33
 replace kx1_0:=kx1_0.ext hq33
 replace ta0:=ta0.below hq33
 replace ta2:=ta2.below hq33
 replace ta3:=ta3.below hq33
 replace ta1:=ta1.below hq33
 replace T10:=T10.below hq33
 replace T11:=T11.below hq33
 replace T12:=T12.below hq33
 replace T13:=T13.below hq33
 replace T15:=T15.below hq33
 replace O10:=O10.below hq33
 replace O11:=O11.below hq33
 replace O12:=O12.below hq33
 replace O13:=O13.below hq33
 replace O15:=O15.below hq33
 have hy34:=Ext.trans hy32 hq33;obtain⟨e,he⟩:∃e:bL W16,W16=e.to:=⟨⟨W16,Below.refl _ _⟩,rfl⟩;rw[he];clear he;have ee_a1:yE a1 a1=true:=ow a1
 go_wp2_with fail
 refine rW _ (by kernel_rfl) 5 (by kernel_rfl) ?_;refine eu 0 rfl (by kernel_rfl) ?_;go_big_quiet_step (fail);refine wpQuiet_nil ?_;refine eu 1 rfl (by kernel_rfl) ?_;go_big_quiet_step (fail);refine wpQuiet_nil ?_;refine jE 2 rfl (by kernel_rfl) (fun e=> ?_)
 go_wp2_with fail
 refine(uM a1 _ (ta1.below e.h) SM1.out).mono ?_;rintro _ W17 ⟨_,q17,rfl,z17,T17,O17⟩;obtain⟨_,_,_,rfl, -⟩:=bC.us T17;have lo17:∀b∈q17,e.to.heap.size<=b/\b<W17.heap.size:=fun b hb=>⟨(O17.2 b hb).1,T17.lt b hb⟩
 have sz17:=e.h.size;have sw17:=(Ext.trans hy34 e.h).size
 go_wp2_with fail
 refine aI z17 ?_;have hq35:=Ext.trans e.h z17;have hs35:=hq35.size
 replace k1_0:=k1_0.ext hq35
 replace kx1_0:=kx1_0.ext hq35
 replace ta0:=ta0.below hq35
 replace ta2:=ta2.below hq35
 replace ta3:=ta3.below hq35
 replace ta1:=ta1.below hq35
 replace T10:=T10.below hq35
 replace T11:=T11.below hq35
 replace T12:=T12.below hq35
 replace T13:=T13.below hq35
 replace O10:=O10.below hq35
 replace O11:=O11.below hq35
 replace O12:=O12.below hq35
 replace O13:=O13.below hq35
 have hy36:=Ext.trans hy34 hq35;refine jE 3 rfl (by kernel_rfl) (fun e=> ?_)
 go_wp2_with fail
 refine(Bf a1 a1 _ (T11.below e.h) (T17.below e.h)).mono ?_;rintro _ W18 ⟨rfl,z18⟩
 go_wp2_with fail
 refine aI z18 ?_;have hq37:=Ext.trans e.h z18;have hs37:=hq37.size
 replace k1_0:=k1_0.ext hq37
 replace kx1_0:=kx1_0.ext hq37
 replace ta0:=ta0.below hq37
 replace ta2:=ta2.below hq37
 replace ta3:=ta3.below hq37
 replace ta1:=ta1.below hq37
 replace T10:=T10.below hq37
 replace T11:=T11.below hq37
 replace T12:=T12.below hq37
 replace T13:=T13.below hq37
 replace T17:=T17.below hq37
 replace O10:=O10.below hq37
 replace O11:=O11.below hq37
 replace O12:=O12.below hq37
 replace O13:=O13.below hq37
 replace O17:=O17.below hq37
 have hy38:=Ext.trans hy36 hq37;refine eu 4 rfl (by kernel_rfl) ?_;go_big_quiet_step (fail);refine wpQuiet_nil ?_;refine Bj (by kernel_rfl) (fun e=> ?_);have ee_a2:yE a2 a2=true:=ow a2
 go_wp2_with fail
 refine(pW a2 _ (ta2.below e.h) SM2.out).mono ?_;rintro _ W19 ⟨B19,D19,q19,rfl,z19,T19,O19⟩;have lo19:∀b∈q19,e.to.heap.size<=b/\b<W19.heap.size:=fun b hb=>⟨(O19.2 b hb).1,T19.lt b hb⟩
 have sz19:=e.h.size;have sw19:=(Ext.trans hy38 e.h).size;have hq39:=Ext.trans e.h z19;have hs39:=hq39.size
 replace k1_0:=k1_0.ext hq39
 replace kx1_0:=kx1_0.ext hq39
 replace ta0:=ta0.below hq39
 replace ta2:=ta2.below hq39
 replace ta3:=ta3.below hq39
 replace ta1:=ta1.below hq39
 replace T10:=T10.below hq39
 replace T11:=T11.below hq39
 replace T12:=T12.below hq39
 replace T13:=T13.below hq39
 replace O10:=O10.below hq39
 replace O11:=O11.below hq39
 replace O12:=O12.below hq39
 replace O13:=O13.below hq39
 have hy40:=Ext.trans hy38 hq39;obtain⟨e,he⟩:∃e:bL W19,W19=e.to:=⟨⟨W19,Below.refl _ _⟩,rfl⟩;rw[he];clear he
 go_wp2_with fail
 refine(pJ a2 a2 _ (T12.below e.h) (T19.below e.h) (by have:=T12.JE;unfold maxLen;omega) (by have:=T12.JE;unfold maxLen;omega)).mono ?_;rintro _ W20 ⟨rfl,z20⟩;have hq41:=Ext.trans e.h z20;have hs41:=hq41.size
 replace k1_0:=k1_0.ext hq41
 replace kx1_0:=kx1_0.ext hq41
 replace ta0:=ta0.below hq41
 replace ta2:=ta2.below hq41
 replace ta3:=ta3.below hq41
 replace ta1:=ta1.below hq41
 replace T10:=T10.below hq41
 replace T11:=T11.below hq41
 replace T12:=T12.below hq41
 replace T13:=T13.below hq41
 replace T19:=T19.below hq41
 replace O10:=O10.below hq41
 replace O11:=O11.below hq41
 replace O12:=O12.below hq41
 replace O13:=O13.below hq41
 replace O19:=O19.below hq41
 have hy42:=Ext.trans hy40 hq41;obtain⟨e,he⟩:∃e:bL W20,W20=e.to:=⟨⟨W20,Below.refl _ _⟩,rfl⟩;rw[he];clear he;have ee_a3:yE a3 a3=true:=ow a3
 go_wp2_with fail
 refine(pW a3 _ (ta3.below e.h) SM3.out).mono ?_;rintro _ W21 ⟨B21,D21,q21,rfl,z21,T21,O21⟩;have lo21:∀b∈q21,e.to.heap.size<=b/\b<W21.heap.size:=fun b hb=>⟨(O21.2 b hb).1,T21.lt b hb⟩
 have sz21:=e.h.size;have sw21:=(Ext.trans hy42 e.h).size;have hq43:=Ext.trans e.h z21;have hs43:=hq43.size
 replace k1_0:=k1_0.ext hq43
 replace kx1_0:=kx1_0.ext hq43
 replace ta0:=ta0.below hq43
 replace ta2:=ta2.below hq43
 replace ta3:=ta3.below hq43
 replace ta1:=ta1.below hq43
 replace T10:=T10.below hq43
 replace T11:=T11.below hq43
 replace T12:=T12.below hq43
 replace T13:=T13.below hq43
 replace O10:=O10.below hq43
 replace O11:=O11.below hq43
 replace O12:=O12.below hq43
 replace O13:=O13.below hq43
 have hy44:=Ext.trans hy42 hq43;obtain⟨e,he⟩:∃e:bL W21,W21=e.to:=⟨⟨W21,Below.refl _ _⟩,rfl⟩;rw[he];clear he
 go_wp2_with fail
 refine(pJ a3 a3 _ (T13.below e.h) (T21.below e.h) (by have:=T13.JE;unfold maxLen;omega) (by have:=T13.JE;unfold maxLen;omega)).mono ?_;rintro _ W22 ⟨rfl,z22⟩;have hq45:=Ext.trans e.h z22;have hs45:=hq45.size
 replace k1_0:=k1_0.ext hq45
 replace kx1_0:=kx1_0.ext hq45
 replace ta0:=ta0.below hq45
 replace ta2:=ta2.below hq45
 replace ta3:=ta3.below hq45
 replace ta1:=ta1.below hq45
 replace T10:=T10.below hq45
 replace T11:=T11.below hq45
 replace T12:=T12.below hq45
 replace T13:=T13.below hq45
 replace T21:=T21.below hq45
 replace O10:=O10.below hq45
 replace O11:=O11.below hq45
 replace O12:=O12.below hq45
 replace O13:=O13.below hq45
 replace O21:=O21.below hq45
 have hy46:=Ext.trans hy44 hq45;obtain⟨e,he⟩:∃e:bL W22,W22=e.to:=⟨⟨W22,Below.refl _ _⟩,rfl⟩;rw[he];clear he
 go_wp2_with fail
 go_ret;exact⟨rfl,bL.old hy46 e⟩
end Go.Proofs.YtbdimbjclhmeoaaGreat
