
/- The law FnExactEventDepths, walked. Printed by gen_law.py. -/
import Derived.Test.YtbdimbjclhmeoaaGreatDepBoth
import Derived.Test.YtbdimbjclhmeoaaGreatKDbg
import Derived.Test.YtbdimbjclhmeoaaGreatZEv
set_option linter.unusedSimpArgs false
set_option linter.unusedVariables false
namespace Go.Proofs.YtbdimbjclhmeoaaGreat
open Go Go.RowKit Go.Proofs Go.Tr
set_option maxRecDepth 100000 in
set_option maxHeartbeats 16000000 in
theorem Zaz(a0:(List bC)){A0:Option Addr}{c0:Nat}{p0:dF}(a1:bC){p1:dF}{u1:bW}(a2:(List aM)){A2:Option Addr}{c2:Nat}{p2:dF}(w:World)(ta0:T1 w (.sl a0.length (a0.flatMap bC.enc)) p0 (.slice A0 a0.length c0))(ta1:TN w a1.enc p1 u1)(ta2:T1 w (.sl a2.length (a2.flatMap aM.enc)) p2 (.slice A2 a2.length c2)):Calls Tryz.prog 6 #[.slice A0 a0.length c0,.agg u1.toArray,.slice A2 a2.length c2] w fun e w'=>e=.returned (.bool (true))/\Ext w w':=by
 refine fD fun e=> ?_
 obtain⟨⟨r0,r1⟩,hR0⟩:∃R,R=Zau a0 a1 a2:=⟨_,rfl⟩;have hR:=Lib.hid hR0;clear hR0;obtain⟨_,_,_,rfl, -⟩:=bC.us (x:=a1) ta1;have loa1:∀b∈p1,0<=b/\b<w.heap.size:=fun b hb=>⟨Nat.zero_le _,ta1.lt b hb⟩
 have loa0:∀b∈p0,0<=b/\b<w.heap.size:=fun b hb=>⟨Nat.zero_le _,ta0.lt b hb⟩
 have loa2:∀b∈p2,0<=b/\b<w.heap.size:=fun b hb=>⟨Nat.zero_le _,ta2.lt b hb⟩
 have hna0:=ta0.JE;have hna2:=ta2.JE
 go_enter Tryz.func6,Tryz.ntmps6
 go_upto_region 1 with(fail)
 generalize hgg1:e.to.heap.size=g1;refine E9 e hgg1 (fun w1 e hx1 hgeg1 hltg1 cg1=> ?_);clear hgg1
 replace ta0:=ta0.below hx1
 replace ta2:=ta2.below hx1
 replace ta1:=ta1.below hx1
 have k1_0:=cg1.always hltg1 0 _ rfl;simp only[Nat.zero_add]at k1_0;clear cg1
 go_wp2_with fail
 refine(Oc a0 1048576 _ (ta0.below e.h) (by unfold maxLen;omega) (by omega) (by omega)).mono ?_;rintro _ W1 ⟨z1,L0,rfl,hr0⟩;have hq2:=Ext.trans e.h z1;have hs2:=hq2.size
 replace k1_0:=k1_0.ext hq2
 replace ta0:=ta0.below hq2
 replace ta2:=ta2.below hq2
 replace ta1:=ta1.below hq2
 have hy3:=Ext.trans hx1 hq2;obtain⟨e,he⟩:∃e:bL W1,W1=e.to:=⟨⟨W1,Below.refl _ _⟩,rfl⟩;rw[he];clear he;rcases hr0 with rfl|⟨hr0_0,hr1_0,sm0⟩
 case inl=>
  go_wp2_with fail
  go_ret;exact⟨rfl,bL.old hy3 e⟩
 have hr2_0:L0<=1048576:=by omega
 have SM0:=Lib.hid sm0;have HL0:=Lib.hid hr1_0;clear sm0 hr1_0
 go_wp2_with fail
 obtain⟨_,_,_, -, -, -,nl1_0,ml1_0⟩:=bC.us (x:=a1) (TN.below ta1 e.h);refine(Iq a1 L0 _ (ta1.below e.h) (Nat.le_trans nl1_0 ml1_0) (by omega) (by omega)).mono ?_;rintro _ W2 ⟨z2,L1,rfl,hr1⟩;have hq4:=Ext.trans e.h z2;have hs4:=hq4.size
 replace k1_0:=k1_0.ext hq4
 replace ta0:=ta0.below hq4
 replace ta2:=ta2.below hq4
 replace ta1:=ta1.below hq4
 have hy5:=Ext.trans hy3 hq4;obtain⟨e,he⟩:∃e:bL W2,W2=e.to:=⟨⟨W2,Below.refl _ _⟩,rfl⟩;rw[he];clear he;rcases hr1 with rfl|⟨hr0_1,hr1_1,sm1⟩
 case inl=>
  go_wp2_with fail
  go_ret;exact⟨rfl,bL.old hy5 e⟩
 have hr2_1:L1<=1048576:=by omega
 have SM1:=Lib.hid sm1;have HL1:=Lib.hid hr1_1;clear sm1 hr1_1
 go_wp2_with fail
 refine(JZ a2 L1 _ (ta2.below e.h) (by unfold maxLen;omega) (by omega) (by omega)).mono ?_;rintro _ W3 ⟨z3,L2,rfl,hr2⟩;have hq6:=Ext.trans e.h z3;have hs6:=hq6.size
 replace k1_0:=k1_0.ext hq6
 replace ta0:=ta0.below hq6
 replace ta2:=ta2.below hq6
 replace ta1:=ta1.below hq6
 have hy7:=Ext.trans hy5 hq6;obtain⟨e,he⟩:∃e:bL W3,W3=e.to:=⟨⟨W3,Below.refl _ _⟩,rfl⟩;rw[he];clear he;rcases hr2 with rfl|⟨hr0_2,hr1_2,sm2⟩
 case inl=>
  go_wp2_with fail
  go_ret;exact⟨rfl,bL.old hy7 e⟩
 have hr2_2:L2<=1048576:=by omega
 have SM2:=Lib.hid sm2;have HL2:=Lib.hid hr1_2;clear sm2 hr1_2
 go_wp2_with fail
 refine rW _ (by kernel_rfl) 12 (by kernel_rfl) ?_;refine eu 0 rfl (by kernel_rfl) ?_;go_big_quiet_step (fail);refine wpQuiet_nil ?_;refine eu 2 rfl (by kernel_rfl) ?_;go_big_quiet_step (fail);refine wpQuiet_nil ?_;refine eu 4 rfl (by kernel_rfl) ?_;go_big_quiet_step (fail);refine wpQuiet_nil ?_;refine jE 1 rfl (by kernel_rfl) (fun e=> ?_)
 go_wp2_with fail
 refine(vQ a0 _ (ta0.below e.h) SM0.out).mono ?_;rintro _ W4 ⟨B4,D4,q4,rfl,z4,T4,O4⟩;have lo4:∀b∈q4,e.to.heap.size<=b/\b<W4.heap.size:=fun b hb=>⟨(O4.2 b hb).1,T4.lt b hb⟩
 have sz4:=e.h.size;have sw4:=(Ext.trans hy7 e.h).size
 go_wp2_with fail
 refine aI z4 ?_;have hq8:=Ext.trans e.h z4;have hs8:=hq8.size
 replace k1_0:=k1_0.ext hq8
 replace ta0:=ta0.below hq8
 replace ta2:=ta2.below hq8
 replace ta1:=ta1.below hq8
 have hy9:=Ext.trans hy7 hq8;refine jE 3 rfl (by kernel_rfl) (fun e=> ?_)
 go_wp2_with fail
 refine(uM a1 _ (ta1.below e.h) SM1.out).mono ?_;rintro _ W5 ⟨_,q5,rfl,z5,T5,O5⟩;obtain⟨_,_,_,rfl, -⟩:=bC.us T5;have lo5:∀b∈q5,e.to.heap.size<=b/\b<W5.heap.size:=fun b hb=>⟨(O5.2 b hb).1,T5.lt b hb⟩
 have sz5:=e.h.size;have sw5:=(Ext.trans hy9 e.h).size
 go_wp2_with fail
 refine aI z5 ?_;have hq10:=Ext.trans e.h z5;have hs10:=hq10.size
 replace k1_0:=k1_0.ext hq10
 replace ta0:=ta0.below hq10
 replace ta2:=ta2.below hq10
 replace ta1:=ta1.below hq10
 replace T4:=T4.below hq10
 replace O4:=O4.below hq10
 have hy11:=Ext.trans hy9 hq10;refine jE 5 rfl (by kernel_rfl) (fun e=> ?_)
 go_wp2_with fail
 refine(pW a2 _ (ta2.below e.h) SM2.out).mono ?_;rintro _ W6 ⟨B6,D6,q6,rfl,z6,T6,O6⟩;have lo6:∀b∈q6,e.to.heap.size<=b/\b<W6.heap.size:=fun b hb=>⟨(O6.2 b hb).1,T6.lt b hb⟩
 have sz6:=e.h.size;have sw6:=(Ext.trans hy11 e.h).size
 go_wp2_with fail
 refine aI z6 ?_;have hq12:=Ext.trans e.h z6;have hs12:=hq12.size
 replace k1_0:=k1_0.ext hq12
 replace ta0:=ta0.below hq12
 replace ta2:=ta2.below hq12
 replace ta1:=ta1.below hq12
 replace T4:=T4.below hq12
 replace T5:=T5.below hq12
 replace O4:=O4.below hq12
 replace O5:=O5.below hq12
 have hy13:=Ext.trans hy11 hq12;refine jE 6 rfl (by kernel_rfl) (fun e=> ?_)
 go_wp2_with fail
 refine(Zay a0 a1 a2 r0 r1 hR _ (T4.below e.h) (T5.below e.h) (T6.below e.h)).mono ?_;rintro _ W7 ⟨B7_0,D7_0,q7_0,rfl,z7,T7_0⟩;have lo7_0:∀b∈q7_0,0<=b/\b<W7.heap.size:=fun b hb=>⟨Nat.zero_le _,T7_0.lt b hb⟩
 have sz7:=e.h.size;have sw7:=(Ext.trans hy13 e.h).size
 go_wp2_with fail
 refine aI z7 ?_;have hq14:=Ext.trans e.h z7;have hs14:=hq14.size
 replace k1_0:=k1_0.ext hq14
 replace ta0:=ta0.below hq14
 replace ta2:=ta2.below hq14
 replace ta1:=ta1.below hq14
 replace T4:=T4.below hq14
 replace T5:=T5.below hq14
 replace T6:=T6.below hq14
 replace O4:=O4.below hq14
 replace O5:=O5.below hq14
 replace O6:=O6.below hq14
 have hy15:=Ext.trans hy13 hq14;refine eu 7 rfl (by kernel_rfl) ?_;go_big_quiet_step (fail);refine wpQuiet_nil ?_;refine eu 8 rfl (by kernel_rfl) ?_;go_big_quiet_step (fail);refine wpQuiet_nil ?_;refine eu 9 rfl (by kernel_rfl) ?_;go_big_quiet_step (fail);refine wpQuiet_nil ?_;refine eu 10 rfl (by kernel_rfl) ?_;go_big_quiet_step (fail);refine wpQuiet_nil ?_;refine eu 11 rfl (by kernel_rfl) ?_;go_big_quiet_step (fail);refine wpQuiet_nil ?_;refine Bj (by kernel_rfl) (fun e=> ?_)
 go_wp2_with fail
 refine(vQ a0 _ (ta0.below e.h) SM0.out).mono ?_;rintro _ W8 ⟨B8,D8,q8,rfl,z8,T8,O8⟩;have lo8:∀b∈q8,e.to.heap.size<=b/\b<W8.heap.size:=fun b hb=>⟨(O8.2 b hb).1,T8.lt b hb⟩
 have sz8:=e.h.size;have sw8:=(Ext.trans hy15 e.h).size;have hq16:=Ext.trans e.h z8;have hs16:=hq16.size
 replace k1_0:=k1_0.ext hq16
 replace ta0:=ta0.below hq16
 replace ta2:=ta2.below hq16
 replace ta1:=ta1.below hq16
 replace T7_0:=T7_0.below hq16
 have hy17:=Ext.trans hy15 hq16;obtain⟨e,he⟩:∃e:bL W8,W8=e.to:=⟨⟨W8,Below.refl _ _⟩,rfl⟩;rw[he];clear he
 go_wp2_with fail
 refine(uM a1 _ (ta1.below e.h) SM1.out).mono ?_;rintro _ W9 ⟨_,q9,rfl,z9,T9,O9⟩;obtain⟨_,_,_,rfl, -⟩:=bC.us T9;have lo9:∀b∈q9,e.to.heap.size<=b/\b<W9.heap.size:=fun b hb=>⟨(O9.2 b hb).1,T9.lt b hb⟩
 have sz9:=e.h.size;have sw9:=(Ext.trans hy17 e.h).size;have hq18:=Ext.trans e.h z9;have hs18:=hq18.size
 replace k1_0:=k1_0.ext hq18
 replace ta0:=ta0.below hq18
 replace ta2:=ta2.below hq18
 replace ta1:=ta1.below hq18
 replace T7_0:=T7_0.below hq18
 replace T8:=T8.below hq18
 replace O8:=O8.below hq18
 have hy19:=Ext.trans hy17 hq18;obtain⟨e,he⟩:∃e:bL W9,W9=e.to:=⟨⟨W9,Below.refl _ _⟩,rfl⟩
 go_upto_region 14 with(fail)
 clear he;generalize hggx1:e.to.heap.size=gx1;refine E9 e hggx1 (fun w20 e hx20 hgegx1 hltgx1 cgx1=> ?_);clear hggx1
 replace k1_0:=k1_0.ext hx20
 replace ta0:=ta0.below hx20
 replace ta2:=ta2.below hx20
 replace ta1:=ta1.below hx20
 replace T7_0:=T7_0.below hx20
 replace T8:=T8.below hx20
 replace T9:=T9.below hx20
 replace O8:=O8.below hx20
 replace O9:=O9.below hx20
 have hy20:=Ext.trans hy19 hx20;have hs_gx1:=hx20.size;have kx1_0:=cgx1.always hltgx1 0 _ rfl;simp only[Nat.zero_add]at kx1_0;clear cgx1
 go_wp2_with fail
 refine(pW a2 _ (ta2.below e.h) SM2.out).mono ?_;rintro _ W10 ⟨B10,D10,q10,rfl,z10,T10,O10⟩;have lo10:∀b∈q10,e.to.heap.size<=b/\b<W10.heap.size:=fun b hb=>⟨(O10.2 b hb).1,T10.lt b hb⟩
 have sz10:=e.h.size;have sw10:=(Ext.trans hy20 e.h).size;have hq21:=Ext.trans e.h z10;have hs21:=hq21.size
 replace k1_0:=k1_0.ext hq21
 replace kx1_0:=kx1_0.ext hq21
 replace ta0:=ta0.below hq21
 replace ta2:=ta2.below hq21
 replace ta1:=ta1.below hq21
 replace T7_0:=T7_0.below hq21
 replace T8:=T8.below hq21
 replace T9:=T9.below hq21
 replace O8:=O8.below hq21
 replace O9:=O9.below hq21
 have hy22:=Ext.trans hy20 hq21;obtain⟨e,he⟩:∃e:bL W10,W10=e.to:=⟨⟨W10,Below.refl _ _⟩,rfl⟩;rw[he];clear he
 go_wp2_with fail
 refine(Zav a0 a1 a2 r0 r1 hR _ (T8.below e.h) (T9.below e.h) (T10.below e.h)).mono ?_;rintro _ W11 ⟨B11_0,D11_0,q11_0,rfl,z11,T11_0,O11⟩;have O11_0:=O11;have lo11_0:∀b∈q11_0,e.to.heap.size<=b/\b<W11.heap.size:=fun b hb=>⟨(O11_0.2 b hb).1,T11_0.lt b hb⟩
 have sz11:=e.h.size;have sw11:=(Ext.trans hy22 e.h).size;have hq23:=Ext.trans e.h z11;have hs23:=hq23.size
 replace k1_0:=k1_0.ext hq23
 replace kx1_0:=kx1_0.ext hq23
 replace ta0:=ta0.below hq23
 replace ta2:=ta2.below hq23
 replace ta1:=ta1.below hq23
 replace T7_0:=T7_0.below hq23
 replace T8:=T8.below hq23
 replace T9:=T9.below hq23
 replace T10:=T10.below hq23
 replace O8:=O8.below hq23
 replace O9:=O9.below hq23
 replace O10:=O10.below hq23
 have hy24:=Ext.trans hy22 hq23;obtain⟨e,he⟩:∃e:bL W11,W11=e.to:=⟨⟨W11,Below.refl _ _⟩,rfl⟩;rw[he];clear he;have ee_r0:yE r0 r0=true:=ow r0
 go_wp2_with fail
 refine(I7 r0 r0 _ (T11_0.below e.h) (T7_0.below e.h) (by have:=T11_0.JE;unfold maxLen;omega) (by have:=T11_0.JE;unfold maxLen;omega)).mono ?_;rintro _ W12 ⟨rfl,z12⟩;have hq25:=Ext.trans e.h z12;have hs25:=hq25.size
 replace k1_0:=k1_0.ext hq25
 replace kx1_0:=kx1_0.ext hq25
 replace ta0:=ta0.below hq25
 replace ta2:=ta2.below hq25
 replace ta1:=ta1.below hq25
 replace T7_0:=T7_0.below hq25
 replace T8:=T8.below hq25
 replace T9:=T9.below hq25
 replace T10:=T10.below hq25
 replace T11_0:=T11_0.below hq25
 replace O8:=O8.below hq25
 replace O9:=O9.below hq25
 replace O10:=O10.below hq25
 replace O11_0:=O11_0.below hq25
 have hy26:=Ext.trans hy24 hq25;obtain⟨e,he⟩:∃e:bL W12,W12=e.to:=⟨⟨W12,Below.refl _ _⟩,rfl⟩;rw[he];clear he;have ee_a0:yE a0 a0=true:=ow a0
 go_wp2_with fail
 refine(vQ a0 _ (ta0.below e.h) SM0.out).mono ?_;rintro _ W13 ⟨B13,D13,q13,rfl,z13,T13,O13⟩;have lo13:∀b∈q13,e.to.heap.size<=b/\b<W13.heap.size:=fun b hb=>⟨(O13.2 b hb).1,T13.lt b hb⟩
 have sz13:=e.h.size;have sw13:=(Ext.trans hy26 e.h).size;have hq27:=Ext.trans e.h z13;have hs27:=hq27.size
 replace k1_0:=k1_0.ext hq27
 replace kx1_0:=kx1_0.ext hq27
 replace ta0:=ta0.below hq27
 replace ta2:=ta2.below hq27
 replace ta1:=ta1.below hq27
 replace T7_0:=T7_0.below hq27
 replace T8:=T8.below hq27
 replace T9:=T9.below hq27
 replace T10:=T10.below hq27
 replace T11_0:=T11_0.below hq27
 replace O8:=O8.below hq27
 replace O9:=O9.below hq27
 replace O10:=O10.below hq27
 replace O11_0:=O11_0.below hq27
 have hy28:=Ext.trans hy26 hq27;obtain⟨e,he⟩:∃e:bL W13,W13=e.to:=⟨⟨W13,Below.refl _ _⟩,rfl⟩;rw[he];clear he
 go_wp2_with fail
 refine(MW a0 a0 _ (T8.below e.h) (T13.below e.h) (by have:=T8.JE;unfold maxLen;omega) (by have:=T8.JE;unfold maxLen;omega)).mono ?_;rintro _ W14 ⟨rfl,z14⟩;have hq29:=Ext.trans e.h z14;have hs29:=hq29.size
 replace k1_0:=k1_0.ext hq29
 replace kx1_0:=kx1_0.ext hq29
 replace ta0:=ta0.below hq29
 replace ta2:=ta2.below hq29
 replace ta1:=ta1.below hq29
 replace T7_0:=T7_0.below hq29
 replace T8:=T8.below hq29
 replace T9:=T9.below hq29
 replace T10:=T10.below hq29
 replace T11_0:=T11_0.below hq29
 replace T13:=T13.below hq29
 replace O8:=O8.below hq29
 replace O9:=O9.below hq29
 replace O10:=O10.below hq29
 replace O11_0:=O11_0.below hq29
 replace O13:=O13.below hq29
 have hy30:=Ext.trans hy28 hq29;obtain⟨e,he⟩:∃e:bL W14,W14=e.to:=⟨⟨W14,Below.refl _ _⟩,rfl⟩;rw[he];clear he;have ee_a1:yE a1 a1=true:=ow a1
 go_wp2_with fail
 refine rW _ (by kernel_rfl) 5 (by kernel_rfl) ?_;refine eu 0 rfl (by kernel_rfl) ?_;go_big_quiet_step (fail);refine wpQuiet_nil ?_;refine eu 1 rfl (by kernel_rfl) ?_;go_big_quiet_step (fail);refine wpQuiet_nil ?_;refine jE 2 rfl (by kernel_rfl) (fun e=> ?_)
 go_wp2_with fail
 refine(uM a1 _ (ta1.below e.h) SM1.out).mono ?_;rintro _ W15 ⟨_,q15,rfl,z15,T15,O15⟩;obtain⟨_,_,_,rfl, -⟩:=bC.us T15;have lo15:∀b∈q15,e.to.heap.size<=b/\b<W15.heap.size:=fun b hb=>⟨(O15.2 b hb).1,T15.lt b hb⟩
 have sz15:=e.h.size;have sw15:=(Ext.trans hy30 e.h).size
 go_wp2_with fail
 refine aI z15 ?_;have hq31:=Ext.trans e.h z15;have hs31:=hq31.size
 replace k1_0:=k1_0.ext hq31
 replace kx1_0:=kx1_0.ext hq31
 replace ta0:=ta0.below hq31
 replace ta2:=ta2.below hq31
 replace ta1:=ta1.below hq31
 replace T7_0:=T7_0.below hq31
 replace T8:=T8.below hq31
 replace T9:=T9.below hq31
 replace T10:=T10.below hq31
 replace T11_0:=T11_0.below hq31
 replace O8:=O8.below hq31
 replace O9:=O9.below hq31
 replace O10:=O10.below hq31
 replace O11_0:=O11_0.below hq31
 have hy32:=Ext.trans hy30 hq31;refine jE 3 rfl (by kernel_rfl) (fun e=> ?_)
 go_wp2_with fail
 refine(Bf a1 a1 _ (T9.below e.h) (T15.below e.h)).mono ?_;rintro _ W16 ⟨rfl,z16⟩
 go_wp2_with fail
 refine aI z16 ?_;have hq33:=Ext.trans e.h z16;have hs33:=hq33.size
 replace k1_0:=k1_0.ext hq33
 replace kx1_0:=kx1_0.ext hq33
 replace ta0:=ta0.below hq33
 replace ta2:=ta2.below hq33
 replace ta1:=ta1.below hq33
 replace T7_0:=T7_0.below hq33
 replace T8:=T8.below hq33
 replace T9:=T9.below hq33
 replace T10:=T10.below hq33
 replace T11_0:=T11_0.below hq33
 replace T15:=T15.below hq33
 replace O8:=O8.below hq33
 replace O9:=O9.below hq33
 replace O10:=O10.below hq33
 replace O11_0:=O11_0.below hq33
 replace O15:=O15.below hq33
 have hy34:=Ext.trans hy32 hq33;refine eu 4 rfl (by kernel_rfl) ?_;go_big_quiet_step (fail);refine wpQuiet_nil ?_;refine Bj (by kernel_rfl) (fun e=> ?_);have ee_a2:yE a2 a2=true:=ow a2
 go_wp2_with fail
 refine(pW a2 _ (ta2.below e.h) SM2.out).mono ?_;rintro _ W17 ⟨B17,D17,q17,rfl,z17,T17,O17⟩;have lo17:∀b∈q17,e.to.heap.size<=b/\b<W17.heap.size:=fun b hb=>⟨(O17.2 b hb).1,T17.lt b hb⟩
 have sz17:=e.h.size;have sw17:=(Ext.trans hy34 e.h).size;have hq35:=Ext.trans e.h z17;have hs35:=hq35.size
 replace k1_0:=k1_0.ext hq35
 replace kx1_0:=kx1_0.ext hq35
 replace ta0:=ta0.below hq35
 replace ta2:=ta2.below hq35
 replace ta1:=ta1.below hq35
 replace T7_0:=T7_0.below hq35
 replace T8:=T8.below hq35
 replace T9:=T9.below hq35
 replace T10:=T10.below hq35
 replace T11_0:=T11_0.below hq35
 replace O8:=O8.below hq35
 replace O9:=O9.below hq35
 replace O10:=O10.below hq35
 replace O11_0:=O11_0.below hq35
 have hy36:=Ext.trans hy34 hq35;obtain⟨e,he⟩:∃e:bL W17,W17=e.to:=⟨⟨W17,Below.refl _ _⟩,rfl⟩;rw[he];clear he
 go_wp2_with fail
 refine(pJ a2 a2 _ (T10.below e.h) (T17.below e.h) (by have:=T10.JE;unfold maxLen;omega) (by have:=T10.JE;unfold maxLen;omega)).mono ?_;rintro _ W18 ⟨rfl,z18⟩;have hq37:=Ext.trans e.h z18;have hs37:=hq37.size
 replace k1_0:=k1_0.ext hq37
 replace kx1_0:=kx1_0.ext hq37
 replace ta0:=ta0.below hq37
 replace ta2:=ta2.below hq37
 replace ta1:=ta1.below hq37
 replace T7_0:=T7_0.below hq37
 replace T8:=T8.below hq37
 replace T9:=T9.below hq37
 replace T10:=T10.below hq37
 replace T11_0:=T11_0.below hq37
 replace T17:=T17.below hq37
 replace O8:=O8.below hq37
 replace O9:=O9.below hq37
 replace O10:=O10.below hq37
 replace O11_0:=O11_0.below hq37
 replace O17:=O17.below hq37
 have hy38:=Ext.trans hy36 hq37;obtain⟨e,he⟩:∃e:bL W18,W18=e.to:=⟨⟨W18,Below.refl _ _⟩,rfl⟩;rw[he];clear he
 go_wp2_with fail
 have cb0:cN (a0.flatMap bC.enc)<=33554432:=by have h1:=lU (f:=bC.enc) (g:=bC.wt) bC.Yr a0;have h2:=HL0.out;omega
 have cb1:a1.cnt<=33554432:=by have h1:=bC.Zf a1;have h2:=HL1.out;omega
 have cb2:cN (a2.flatMap aM.enc)<=33554432:=by have h1:=lU (f:=aM.enc) (g:=(fun _=>0)) aM.Yr a2;have h2:=HL2.out;omega
 have rb0:cN (r0.flatMap dJ)<=1099511627776:=Zax a0 a1 a2 r0 r1 hR.out SM0.out SM1.out SM2.out;refine(Jy a0 1 _ (T8.below e.h) (O8.below e.h) (by have:=T8.JE;unfold maxLen;omega) (by omega) (by omega)).mono ?_;rintro _ W19 ⟨kx0,rfl,hkx0,M19,f19,V19⟩;have pkx0:0<=kx0:=by have:=hkx0.out;omega
 have hsW19:=f19.size;have hszW19:=e.h.size
 replace k1_0:=k1_0.tC e f19 (by omega) (fun hm=>by have:=lo8 _ hm;omega)
 replace kx1_0:=kx1_0.tC e f19 (by omega) (fun hm=>by have:=lo8 _ hm;omega)
 replace ta0:=T1.tC (ta0.below e.h) f19 (fun y hy hm=>by have h1:=loa0 y hy;have h2:=lo8 y hm;omega)
 replace ta2:=T1.tC (ta2.below e.h) f19 (fun y hy hm=>by have h1:=loa2 y hy;have h2:=lo8 y hm;omega)
 replace ta1:=TN.tC (ta1.below e.h) f19 (fun y hy hm=>by have h1:=loa1 y hy;have h2:=lo8 y hm;omega)
 replace T7_0:=T1.tC (T7_0.below e.h) f19 (fun y hy hm=>by have h1:=lo7_0 y hy;have h2:=lo8 y hm;omega)
 replace O9:=(O9.below e.h).tC f19
 replace T9:=TN.tC (T9.below e.h) f19 (fun y hy hm=>by have h1:=lo9 y hy;have h2:=lo8 y hm;omega)
 replace O10:=(O10.below e.h).tC f19
 replace T10:=T1.tC (T10.below e.h) f19 (fun y hy hm=>by have h1:=lo10 y hy;have h2:=lo8 y hm;omega)
 replace O11_0:=(O11_0.below e.h).tC f19
 replace T11_0:=T1.tC (T11_0.below e.h) f19 (fun y hy hm=>by have h1:=lo11_0 y hy;have h2:=lo8 y hm;omega)
 have hB19:Ext w W19:=Below.trans (Ext.trans hy38 e.h) (oK.below f19 (Ext.trans hy38 e.h).size (fun y hm=>by have:=lo8 y hm;have:=(Ext.trans hy38 e.h).size;omega));obtain⟨e,he⟩:∃e:bL W19,W19=e.to:=⟨⟨W19,Below.refl _ _⟩,rfl⟩;rw[he];clear he;have bdkx0:kx0<=36028797018963968:=by have:=hkx0.out;omega
 go_wp2_with fail
 refine(K6 a1 kx0 _ (T9.below e.h) (O9.below e.h) (by omega) (by omega)).mono ?_;rintro _ W20 ⟨kx1,rfl,hkx1,M20,f20,V20⟩;have pkx1:0<=kx1:=by have:=hkx1.out;omega
 have hsW20:=f20.size;have hszW20:=e.h.size
 replace k1_0:=k1_0.tC e f20 (by omega) (fun hm=>by have:=lo9 _ hm;omega)
 replace kx1_0:=kx1_0.tC e f20 (by omega) (fun hm=>by have:=lo9 _ hm;omega)
 replace ta0:=T1.tC (ta0.below e.h) f20 (fun y hy hm=>by have h1:=loa0 y hy;have h2:=lo9 y hm;omega)
 replace ta2:=T1.tC (ta2.below e.h) f20 (fun y hy hm=>by have h1:=loa2 y hy;have h2:=lo9 y hm;omega)
 replace ta1:=TN.tC (ta1.below e.h) f20 (fun y hy hm=>by have h1:=loa1 y hy;have h2:=lo9 y hm;omega)
 replace T7_0:=T1.tC (T7_0.below e.h) f20 (fun y hy hm=>by have h1:=lo7_0 y hy;have h2:=lo9 y hm;omega)
 replace O10:=(O10.below e.h).tC f20
 replace T10:=T1.tC (T10.below e.h) f20 (fun y hy hm=>by have h1:=lo10 y hy;have h2:=lo9 y hm;omega)
 replace O11_0:=(O11_0.below e.h).tC f20
 replace T11_0:=T1.tC (T11_0.below e.h) f20 (fun y hy hm=>by have h1:=lo11_0 y hy;have h2:=lo9 y hm;omega)
 have hB20:Ext w W20:=Below.trans (Ext.trans hB19 e.h) (oK.below f20 (Ext.trans hB19 e.h).size (fun y hm=>by have:=lo9 y hm;have:=(Ext.trans hB19 e.h).size;omega));obtain⟨e,he⟩:∃e:bL W20,W20=e.to:=⟨⟨W20,Below.refl _ _⟩,rfl⟩;rw[he];clear he;have bdkx1:kx1<=72057594037927936:=by have:=hkx1.out;omega
 go_wp2_with fail
 refine(wT a2 kx1 _ (T10.below e.h) (O10.below e.h) (by have:=T10.JE;unfold maxLen;omega) (by omega) (by omega)).mono ?_;rintro _ W21 ⟨kx2,rfl,hkx2,M21,f21,V21⟩;have pkx2:0<=kx2:=by have:=hkx2.out;omega
 have hsW21:=f21.size;have hszW21:=e.h.size
 replace k1_0:=k1_0.tC e f21 (by omega) (fun hm=>by have:=lo10 _ hm;omega)
 replace kx1_0:=kx1_0.tC e f21 (by omega) (fun hm=>by have:=lo10 _ hm;omega)
 replace ta0:=T1.tC (ta0.below e.h) f21 (fun y hy hm=>by have h1:=loa0 y hy;have h2:=lo10 y hm;omega)
 replace ta2:=T1.tC (ta2.below e.h) f21 (fun y hy hm=>by have h1:=loa2 y hy;have h2:=lo10 y hm;omega)
 replace ta1:=TN.tC (ta1.below e.h) f21 (fun y hy hm=>by have h1:=loa1 y hy;have h2:=lo10 y hm;omega)
 replace T7_0:=T1.tC (T7_0.below e.h) f21 (fun y hy hm=>by have h1:=lo7_0 y hy;have h2:=lo10 y hm;omega)
 replace O11_0:=(O11_0.below e.h).tC f21
 replace T11_0:=T1.tC (T11_0.below e.h) f21 (fun y hy hm=>by have h1:=lo11_0 y hy;have h2:=lo10 y hm;omega)
 have hB21:Ext w W21:=Below.trans (Ext.trans hB20 e.h) (oK.below f21 (Ext.trans hB20 e.h).size (fun y hm=>by have:=lo10 y hm;have:=(Ext.trans hB20 e.h).size;omega));obtain⟨e,he⟩:∃e:bL W21,W21=e.to:=⟨⟨W21,Below.refl _ _⟩,rfl⟩;rw[he];clear he;have bdkx2:kx2<=108086391056891904:=by have:=hkx2.out;omega
 go_wp2_with fail
 refine(I7 r0 r0 _ (T11_0.below e.h) (T7_0.below e.h) (by have:=T11_0.JE;unfold maxLen;omega) (by have:=T11_0.JE;unfold maxLen;omega)).mono ?_;rintro _ W22 ⟨rfl,z22⟩;have hq39:=Ext.trans e.h z22;have hs39:=hq39.size
 replace k1_0:=k1_0.ext hq39
 replace kx1_0:=kx1_0.ext hq39
 replace ta0:=ta0.below hq39
 replace ta2:=ta2.below hq39
 replace ta1:=ta1.below hq39
 replace T7_0:=T7_0.below hq39
 replace T11_0:=T11_0.below hq39
 replace O11_0:=O11_0.below hq39
 have hy40:=Ext.trans hB21 hq39;obtain⟨e,he⟩:∃e:bL W22,W22=e.to:=⟨⟨W22,Below.refl _ _⟩,rfl⟩;rw[he];clear he
 go_wp2_with fail
 refine(En r0 1 _ (T11_0.below e.h) (O11_0.below e.h) (by have:=T11_0.JE;unfold maxLen;omega) (by omega) (by omega)).mono ?_;rintro _ W23 ⟨mg0,rfl,hmg0,M23,f23,V23⟩;have pmg0:0<=mg0:=by have:=hmg0.out;omega
 have hsW23:=f23.size;have hszW23:=e.h.size
 replace k1_0:=k1_0.tC e f23 (by omega) (fun hm=>by have:=lo11_0 _ hm;omega)
 replace kx1_0:=kx1_0.tC e f23 (by omega) (fun hm=>by have:=lo11_0 _ hm;omega)
 replace ta0:=T1.tC (ta0.below e.h) f23 (fun y hy hm=>by have h1:=loa0 y hy;have h2:=lo11_0 y hm;omega)
 replace ta2:=T1.tC (ta2.below e.h) f23 (fun y hy hm=>by have h1:=loa2 y hy;have h2:=lo11_0 y hm;omega)
 replace ta1:=TN.tC (ta1.below e.h) f23 (fun y hy hm=>by have h1:=loa1 y hy;have h2:=lo11_0 y hm;omega)
 replace T7_0:=T1.tC (T7_0.below e.h) f23 (fun y hy hm=>by have h1:=lo7_0 y hy;have h2:=lo11_0 y hm;omega)
 have hB23:Ext w W23:=Below.trans (Ext.trans hy40 e.h) (oK.below f23 (Ext.trans hy40 e.h).size (fun y hm=>by have:=lo11_0 y hm;have:=(Ext.trans hy40 e.h).size;omega));obtain⟨e,he⟩:∃e:bL W23,W23=e.to:=⟨⟨W23,Below.refl _ _⟩,rfl⟩;rw[he];clear he;have bdmg0:mg0<=144115188075855872:=by have:=hmg0.out;omega
 have O11_0:=V23;have CH0:Hid (QC Tryz.prog W23 _ _ _):=fun W hW=>TR r0 1 mg0 r0.length W (M23.below hW) Ot (by omega) (by omega) hmg0
 go_wp2_with (first|(go_at_call 29;with_reducible refine(CH0.out.at_ _).mono ?_;rintro _ _ ⟨rfl,e,rfl⟩))
 clear CH0
 go_wp2_with fail
 refine rW _ (by kernel_rfl) 12 (by kernel_rfl) ?_;refine eu 0 rfl (by kernel_rfl) ?_;go_big_quiet_step (fail);refine wpQuiet_nil ?_;refine eu 2 rfl (by kernel_rfl) ?_;go_big_quiet_step (fail);refine wpQuiet_nil ?_;refine eu 4 rfl (by kernel_rfl) ?_;go_big_quiet_step (fail);refine wpQuiet_nil ?_;refine jE 1 rfl (by kernel_rfl) (fun e=> ?_)
 go_wp2_with fail
 refine(vQ a0 _ (ta0.below e.h) SM0.out).mono ?_;rintro _ W24 ⟨B24,D24,q24,rfl,z24,T24,O24⟩;have lo24:∀b∈q24,e.to.heap.size<=b/\b<W24.heap.size:=fun b hb=>⟨(O24.2 b hb).1,T24.lt b hb⟩
 have sz24:=e.h.size;have sw24:=(Ext.trans hB23 e.h).size
 go_wp2_with fail
 refine aI z24 ?_;have hq41:=Ext.trans e.h z24;have hs41:=hq41.size
 replace k1_0:=k1_0.ext hq41
 replace kx1_0:=kx1_0.ext hq41
 replace ta0:=ta0.below hq41
 replace ta2:=ta2.below hq41
 replace ta1:=ta1.below hq41
 replace T7_0:=T7_0.below hq41
 replace M23:=M23.below hq41
 replace O11_0:=O11_0.below hq41
 have hy42:=Ext.trans hB23 hq41;refine jE 3 rfl (by kernel_rfl) (fun e=> ?_)
 go_wp2_with fail
 refine(uM a1 _ (ta1.below e.h) SM1.out).mono ?_;rintro _ W25 ⟨_,q25,rfl,z25,T25,O25⟩;obtain⟨_,_,_,rfl, -⟩:=bC.us T25;have lo25:∀b∈q25,e.to.heap.size<=b/\b<W25.heap.size:=fun b hb=>⟨(O25.2 b hb).1,T25.lt b hb⟩
 have sz25:=e.h.size;have sw25:=(Ext.trans hy42 e.h).size
 go_wp2_with fail
 refine aI z25 ?_;have hq43:=Ext.trans e.h z25;have hs43:=hq43.size
 replace k1_0:=k1_0.ext hq43
 replace kx1_0:=kx1_0.ext hq43
 replace ta0:=ta0.below hq43
 replace ta2:=ta2.below hq43
 replace ta1:=ta1.below hq43
 replace T7_0:=T7_0.below hq43
 replace M23:=M23.below hq43
 replace T24:=T24.below hq43
 replace O11_0:=O11_0.below hq43
 replace O24:=O24.below hq43
 have hy44:=Ext.trans hy42 hq43;refine jE 5 rfl (by kernel_rfl) (fun e=> ?_)
 go_wp2_with fail
 refine(pW a2 _ (ta2.below e.h) SM2.out).mono ?_;rintro _ W26 ⟨B26,D26,q26,rfl,z26,T26,O26⟩;have lo26:∀b∈q26,e.to.heap.size<=b/\b<W26.heap.size:=fun b hb=>⟨(O26.2 b hb).1,T26.lt b hb⟩
 have sz26:=e.h.size;have sw26:=(Ext.trans hy44 e.h).size
 go_wp2_with fail
 refine aI z26 ?_;have hq45:=Ext.trans e.h z26;have hs45:=hq45.size
 replace k1_0:=k1_0.ext hq45
 replace kx1_0:=kx1_0.ext hq45
 replace ta0:=ta0.below hq45
 replace ta2:=ta2.below hq45
 replace ta1:=ta1.below hq45
 replace T7_0:=T7_0.below hq45
 replace M23:=M23.below hq45
 replace T24:=T24.below hq45
 replace T25:=T25.below hq45
 replace O11_0:=O11_0.below hq45
 replace O24:=O24.below hq45
 replace O25:=O25.below hq45
 have hy46:=Ext.trans hy44 hq45;refine jE 6 rfl (by kernel_rfl) (fun e=> ?_)
 go_wp2_with fail
 refine(Zav a0 a1 a2 r0 r1 hR _ (T24.below e.h) (T25.below e.h) (T26.below e.h)).mono ?_;rintro _ W27 ⟨B27_0,D27_0,q27_0,rfl,z27,T27_0,O27⟩;have O27_0:=O27;have lo27_0:∀b∈q27_0,e.to.heap.size<=b/\b<W27.heap.size:=fun b hb=>⟨(O27_0.2 b hb).1,T27_0.lt b hb⟩
 have sz27:=e.h.size;have sw27:=(Ext.trans hy46 e.h).size
 go_wp2_with fail
 refine aI z27 ?_;have hq47:=Ext.trans e.h z27;have hs47:=hq47.size
 replace k1_0:=k1_0.ext hq47
 replace kx1_0:=kx1_0.ext hq47
 replace ta0:=ta0.below hq47
 replace ta2:=ta2.below hq47
 replace ta1:=ta1.below hq47
 replace T7_0:=T7_0.below hq47
 replace M23:=M23.below hq47
 replace T24:=T24.below hq47
 replace T25:=T25.below hq47
 replace T26:=T26.below hq47
 replace O11_0:=O11_0.below hq47
 replace O24:=O24.below hq47
 replace O25:=O25.below hq47
 replace O26:=O26.below hq47
 have hy48:=Ext.trans hy46 hq47;refine eu 7 rfl (by kernel_rfl) ?_;go_big_quiet_step (fail);refine wpQuiet_nil ?_;refine eu 8 rfl (by kernel_rfl) ?_;go_big_quiet_step (fail);refine wpQuiet_nil ?_;refine eu 9 rfl (by kernel_rfl) ?_;go_big_quiet_step (fail);refine wpQuiet_nil ?_;refine eu 10 rfl (by kernel_rfl) ?_;go_big_quiet_step (fail);refine wpQuiet_nil ?_;refine eu 11 rfl (by kernel_rfl) ?_;go_big_quiet_step (fail);refine wpQuiet_nil ?_;refine Bj (by kernel_rfl) (fun e=> ?_)
 go_wp2_with fail
 refine(I7 r0 r0 _ (T27_0.below e.h) (T7_0.below e.h) (by have:=T27_0.JE;unfold maxLen;omega) (by have:=T27_0.JE;unfold maxLen;omega)).mono ?_;rintro _ W28 ⟨rfl,z28⟩;have hq49:=Ext.trans e.h z28;have hs49:=hq49.size
 replace k1_0:=k1_0.ext hq49
 replace kx1_0:=kx1_0.ext hq49
 replace ta0:=ta0.below hq49
 replace ta2:=ta2.below hq49
 replace ta1:=ta1.below hq49
 replace T7_0:=T7_0.below hq49
 replace M23:=M23.below hq49
 replace T27_0:=T27_0.below hq49
 replace O11_0:=O11_0.below hq49
 replace O27_0:=O27_0.below hq49
 have hy50:=Ext.trans hy48 hq49;obtain⟨e,he⟩:∃e:bL W28,W28=e.to:=⟨⟨W28,Below.refl _ _⟩,rfl⟩;rw[he];clear he;have CH0:Hid (QC Tryz.prog W28 _ _ _):=fun W hW=>TR r0 1 mg0 r0.length W (M23.below hW) Ot (by omega) (by omega) hmg0
 go_wp2_with (first|(go_at_call 29;with_reducible refine(CH0.out.at_ _).mono ?_;rintro _ _ ⟨rfl,e,rfl⟩))
 clear CH0
 go_wp2_with fail
 go_ret;exact⟨rfl,bL.old hy50 e⟩
end Go.Proofs.YtbdimbjclhmeoaaGreat
