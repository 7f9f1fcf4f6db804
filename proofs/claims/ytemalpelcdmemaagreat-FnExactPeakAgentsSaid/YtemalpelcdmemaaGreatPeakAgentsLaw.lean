
/- The law FnExactPeakAgents, walked. Printed by gen_law.py. -/
import Derived.Test.YtemalpelcdmemaaGreatShort
import Derived.Test.YtemalpelcdmemaaGreatProg
import Derived.Test.YtemalpelcdmemaaGreatPeakAgentsBoth
import Derived.Test.YtemalpelcdmemaaGreatKDbg
import Derived.Test.YtemalpelcdmemaaGreatZDbg
import Derived.Test.YtemalpelcdmemaaGreatSc
import Derived.BigGuardPart
import Derived.Outline
import Derived.Deep.CutBlock
set_option linter.unusedSimpArgs false
set_option linter.unusedVariables false
namespace Go.Proofs.YtemalpelcdmemaaGreat
open Go Go.RowKit Go.Proofs Go.Tr
set_option maxRecDepth 100000 in
set_option maxHeartbeats 16000000 in
theorem H8(a0:(List aH)){A0:Option Addr}{c0:Nat}{p0:List Nat}(a1:aH){p1:List Nat}{u1:List Value}(a2:(List Int)){A2:Option Addr}{c2:Nat}{p2:List Nat}(a3:Int)(w:World)(ta0:T1 w (.sl a0.length (a0.flatMap aH.enc)) p0 (.slice A0 a0.length c0))(ta1:TN w a1.enc p1 u1)(ta2:T1 w (.sl a2.length (a2.flatMap bg)) p2 (.slice A2 a2.length c2)):Calls Tryz.prog 9 #[.slice A0 a0.length c0,.agg u1.toArray,.slice A2 a2.length c2,.int .i64 a3] w fun e w'=>e=.returned (.bool (true))∧Ext w w':=by
 refine aP fun e=> ?_
 obtain⟨⟨r0,r1⟩,hR0⟩:∃R,R=wM a0 a1 a2 a3:=⟨_,rfl⟩;have hR:=Lib.hid hR0;clear hR0;obtain⟨_,_,_,rfl, -⟩:=aH.us (x:=a1) ta1;have loa1:∀b∈p1,0≤b∧b<w.heap.size:=fun b hb=>⟨Nat.zero_le _,ta1.lt b hb⟩
 have loa0:∀b∈p0,0≤b∧b<w.heap.size:=fun b hb=>⟨Nat.zero_le _,ta0.lt b hb⟩
 have loa2:∀b∈p2,0≤b∧b<w.heap.size:=fun b hb=>⟨Nat.zero_le _,ta2.lt b hb⟩
 have hna0:=ta0.jS;have hna2:=ta2.jS;have el2:=Lib.hid (rfl:a2.length=a2.length)
 go_enter Tryz.func9,Tryz.ntmps9
 go_upto_region 1 with(fail)
 generalize hgg1:e.to.heap.size=g1;refine dW e hgg1 (fun w1 e hx1 hgeg1 hltg1 cg1=> ?_);clear hgg1
 replace ta0:=ta0.below hx1
 replace ta2:=ta2.below hx1
 replace ta1:=ta1.below hx1
 have k1_0:=cg1.always hltg1 0 _ rfl;simp only[Nat.zero_add]at k1_0;clear cg1
 by_cases hsl2:1048576<a2.length
 case pos=>
  go_wp2_with fail
  go_ret;exact⟨rfl,ExtOf.old hx1 e⟩
 replace hsl2:a2.length≤1048576:=by omega
 go_wp2_with fail
 refine(wU a0 1048576 _ (ta0.below e.h) (by unfold maxLen;omega) (by omega) (by omega)).mono ?_;rintro _ W1 ⟨z1,L0,rfl,hr0⟩;have hq2:=Ext.trans e.h z1;have hs2:=hq2.size
 replace k1_0:=k1_0.ext hq2
 replace ta0:=ta0.below hq2
 replace ta2:=ta2.below hq2
 replace ta1:=ta1.below hq2
 have hy3:=Ext.trans hx1 hq2;obtain⟨e,he⟩:∃e:ExtOf W1,W1=e.to:=⟨⟨W1,Below.refl _ _⟩,rfl⟩;rw[he];clear he;rcases hr0 with rfl|⟨hr0_0,hr1_0,sm0⟩
 case inl=>
  go_wp2_with fail
  go_ret;exact⟨rfl,ExtOf.old hy3 e⟩
 have hr2_0:L0≤1048576:=by omega
 have SM0:=Lib.hid sm0;have HL0:=Lib.hid hr1_0;clear sm0 hr1_0
 go_wp2_with fail
 obtain⟨_,_,_, -, -, -,nl1_0,ml1_0⟩:=aH.us (x:=a1) (TN.below ta1 e.h);refine(vM a1 L0 _ (ta1.below e.h) (Nat.le_trans nl1_0 ml1_0) (by omega) (by omega)).mono ?_;rintro _ W2 ⟨z2,L1,rfl,hr1⟩;have hq4:=Ext.trans e.h z2;have hs4:=hq4.size
 replace k1_0:=k1_0.ext hq4
 replace ta0:=ta0.below hq4
 replace ta2:=ta2.below hq4
 replace ta1:=ta1.below hq4
 have hy5:=Ext.trans hy3 hq4;obtain⟨e,he⟩:∃e:ExtOf W2,W2=e.to:=⟨⟨W2,Below.refl _ _⟩,rfl⟩;rw[he];clear he;rcases hr1 with rfl|⟨hr0_1,hr1_1,sm1⟩
 case inl=>
  go_wp2_with fail
  go_ret;exact⟨rfl,ExtOf.old hy5 e⟩
 have hr2_1:L1≤1048576:=by omega
 have SM1:=Lib.hid sm1;have HL1:=Lib.hid hr1_1;clear sm1 hr1_1
 go_wp2_with fail
 refine jd _ (by kernel_rfl) 13 (by kernel_rfl) ?_;refine bH 0 rfl (by kernel_rfl) ?_;go_big_quiet_step (fail);refine wpQuiet_nil ?_;refine bH 2 rfl (by kernel_rfl) ?_;go_big_quiet_step (fail);refine wpQuiet_nil ?_;refine bH 4 rfl (by kernel_rfl) ?_;go_big_quiet_step (fail);refine wpQuiet_nil ?_;refine bH 6 rfl (by kernel_rfl) ?_;go_big_quiet_step (fail);refine wpQuiet_nil ?_;refine eO 1 rfl (by kernel_rfl) (fun e=> ?_)
 go_wp2_with fail
 refine(fJ a0 _ (ta0.below e.h) SM0.out).mono ?_;rintro _ W3 ⟨B3,D3,q3,rfl,z3,T3,O3⟩;have lo3:∀b∈q3,e.to.heap.size≤b∧b<W3.heap.size:=fun b hb=>⟨(O3.2 b hb).1,T3.lt b hb⟩
 have sz3:=e.h.size;have sw3:=(Ext.trans hy5 e.h).size
 go_wp2_with fail
 refine aI z3 ?_;have hq6:=Ext.trans e.h z3;have hs6:=hq6.size
 replace k1_0:=k1_0.ext hq6
 replace ta0:=ta0.below hq6
 replace ta2:=ta2.below hq6
 replace ta1:=ta1.below hq6
 have hy7:=Ext.trans hy5 hq6;refine eO 3 rfl (by kernel_rfl) (fun e=> ?_)
 go_wp2_with fail
 refine(gD a1 _ (ta1.below e.h) SM1.out).mono ?_;rintro _ W4 ⟨_,q4,rfl,z4,T4,O4⟩;obtain⟨_,_,_,rfl, -⟩:=aH.us T4;have lo4:∀b∈q4,e.to.heap.size≤b∧b<W4.heap.size:=fun b hb=>⟨(O4.2 b hb).1,T4.lt b hb⟩
 have sz4:=e.h.size;have sw4:=(Ext.trans hy7 e.h).size
 go_wp2_with fail
 refine aI z4 ?_;have hq8:=Ext.trans e.h z4;have hs8:=hq8.size
 replace k1_0:=k1_0.ext hq8
 replace ta0:=ta0.below hq8
 replace ta2:=ta2.below hq8
 replace ta1:=ta1.below hq8
 replace T3:=T3.below hq8
 replace O3:=O3.below hq8
 have hy9:=Ext.trans hy7 hq8;refine eO 5 rfl (by kernel_rfl) (fun e=> ?_)
 go_wp2_with fail
 refine(dU a2 _ (ta2.below e.h) hsl2).mono ?_;rintro _ W5 ⟨B5,D5,q5,rfl,z5,T5,O5⟩;have lo5:∀b∈q5,e.to.heap.size≤b∧b<W5.heap.size:=fun b hb=>⟨(O5.2 b hb).1,T5.lt b hb⟩
 have sz5:=e.h.size;have sw5:=(Ext.trans hy9 e.h).size
 go_wp2_with fail
 refine aI z5 ?_;have hq10:=Ext.trans e.h z5;have hs10:=hq10.size
 replace k1_0:=k1_0.ext hq10
 replace ta0:=ta0.below hq10
 replace ta2:=ta2.below hq10
 replace ta1:=ta1.below hq10
 replace T3:=T3.below hq10
 replace T4:=T4.below hq10
 replace O3:=O3.below hq10
 replace O4:=O4.below hq10
 have hy11:=Ext.trans hy9 hq10;refine eO 7 rfl (by kernel_rfl) (fun e=> ?_)
 go_wp2_with fail
 refine(Ed a0 a1 a2 a3 r0 r1 hR _ (T3.below e.h) (T4.below e.h) (T5.below e.h)).mono ?_;rintro _ W6 ⟨rfl,z6⟩;have sz6:=e.h.size;have sw6:=(Ext.trans hy11 e.h).size
 go_wp2_with fail
 refine aI z6 ?_;have hq12:=Ext.trans e.h z6;have hs12:=hq12.size
 replace k1_0:=k1_0.ext hq12
 replace ta0:=ta0.below hq12
 replace ta2:=ta2.below hq12
 replace ta1:=ta1.below hq12
 replace T3:=T3.below hq12
 replace T4:=T4.below hq12
 replace T5:=T5.below hq12
 replace O3:=O3.below hq12
 replace O4:=O4.below hq12
 replace O5:=O5.below hq12
 have hy13:=Ext.trans hy11 hq12;refine bH 8 rfl (by kernel_rfl) ?_;go_big_quiet_step (fail);refine wpQuiet_nil ?_;refine bH 9 rfl (by kernel_rfl) ?_;go_big_quiet_step (fail);refine wpQuiet_nil ?_;refine bH 10 rfl (by kernel_rfl) ?_;go_big_quiet_step (fail);refine wpQuiet_nil ?_;refine bH 11 rfl (by kernel_rfl) ?_;go_big_quiet_step (fail);refine wpQuiet_nil ?_;refine bH 12 rfl (by kernel_rfl) ?_;go_big_quiet_step (fail);refine wpQuiet_nil ?_;refine oM (by kernel_rfl) (fun e=> ?_)
 go_wp2_with fail
 refine(fJ a0 _ (ta0.below e.h) SM0.out).mono ?_;rintro _ W7 ⟨B7,D7,q7,rfl,z7,T7,O7⟩;have lo7:∀b∈q7,e.to.heap.size≤b∧b<W7.heap.size:=fun b hb=>⟨(O7.2 b hb).1,T7.lt b hb⟩
 have sz7:=e.h.size;have sw7:=(Ext.trans hy13 e.h).size;have hq14:=Ext.trans e.h z7;have hs14:=hq14.size
 replace k1_0:=k1_0.ext hq14
 replace ta0:=ta0.below hq14
 replace ta2:=ta2.below hq14
 replace ta1:=ta1.below hq14
 have hy15:=Ext.trans hy13 hq14;obtain⟨e,he⟩:∃e:ExtOf W7,W7=e.to:=⟨⟨W7,Below.refl _ _⟩,rfl⟩;rw[he];clear he
 go_wp2_with fail
 refine(gD a1 _ (ta1.below e.h) SM1.out).mono ?_;rintro _ W8 ⟨_,q8,rfl,z8,T8,O8⟩;obtain⟨_,_,_,rfl, -⟩:=aH.us T8;have lo8:∀b∈q8,e.to.heap.size≤b∧b<W8.heap.size:=fun b hb=>⟨(O8.2 b hb).1,T8.lt b hb⟩
 have sz8:=e.h.size;have sw8:=(Ext.trans hy15 e.h).size;have hq16:=Ext.trans e.h z8;have hs16:=hq16.size
 replace k1_0:=k1_0.ext hq16
 replace ta0:=ta0.below hq16
 replace ta2:=ta2.below hq16
 replace ta1:=ta1.below hq16
 replace T7:=T7.below hq16
 replace O7:=O7.below hq16
 have hy17:=Ext.trans hy15 hq16;obtain⟨e,he⟩:∃e:ExtOf W8,W8=e.to:=⟨⟨W8,Below.refl _ _⟩,rfl⟩
 go_upto_region 13 with(fail)
 clear he;generalize hggx1:e.to.heap.size=gx1;refine dW e hggx1 (fun w18 e hx18 hgegx1 hltgx1 cgx1=> ?_);clear hggx1
 replace k1_0:=k1_0.ext hx18
 replace ta0:=ta0.below hx18
 replace ta2:=ta2.below hx18
 replace ta1:=ta1.below hx18
 replace T7:=T7.below hx18
 replace T8:=T8.below hx18
 replace O7:=O7.below hx18
 replace O8:=O8.below hx18
 have hy18:=Ext.trans hy17 hx18;have hs_gx1:=hx18.size;have kx1_0:=cgx1.always hltgx1 0 _ rfl;simp only[Nat.zero_add]at kx1_0;clear cgx1
 go_wp2_with fail
 refine(dU a2 _ (ta2.below e.h) hsl2).mono ?_;rintro _ W9 ⟨B9,D9,q9,rfl,z9,T9,O9⟩;have lo9:∀b∈q9,e.to.heap.size≤b∧b<W9.heap.size:=fun b hb=>⟨(O9.2 b hb).1,T9.lt b hb⟩
 have sz9:=e.h.size;have sw9:=(Ext.trans hy18 e.h).size;have hq19:=Ext.trans e.h z9;have hs19:=hq19.size
 replace k1_0:=k1_0.ext hq19
 replace kx1_0:=kx1_0.ext hq19
 replace ta0:=ta0.below hq19
 replace ta2:=ta2.below hq19
 replace ta1:=ta1.below hq19
 replace T7:=T7.below hq19
 replace T8:=T8.below hq19
 replace O7:=O7.below hq19
 replace O8:=O8.below hq19
 have hy20:=Ext.trans hy18 hq19;obtain⟨e,he⟩:∃e:ExtOf W9,W9=e.to:=⟨⟨W9,Below.refl _ _⟩,rfl⟩;rw[he];clear he
 go_wp2_with fail
 refine(Ec a0 a1 a2 a3 r0 r1 hR _ (T7.below e.h) (T8.below e.h) (T9.below e.h)).mono ?_;rintro _ W10 ⟨rfl,z10⟩;have sz10:=e.h.size;have sw10:=(Ext.trans hy20 e.h).size;have hq21:=Ext.trans e.h z10;have hs21:=hq21.size
 replace k1_0:=k1_0.ext hq21
 replace kx1_0:=kx1_0.ext hq21
 replace ta0:=ta0.below hq21
 replace ta2:=ta2.below hq21
 replace ta1:=ta1.below hq21
 replace T7:=T7.below hq21
 replace T8:=T8.below hq21
 replace T9:=T9.below hq21
 replace O7:=O7.below hq21
 replace O8:=O8.below hq21
 replace O9:=O9.below hq21
 have hy22:=Ext.trans hy20 hq21;obtain⟨e,he⟩:∃e:ExtOf W10,W10=e.to:=⟨⟨W10,Below.refl _ _⟩,rfl⟩;rw[he];clear he;have en0:(r0 !=r0)=false:=bne_self_eq_false r0;have ee0:(r0==r0)=true:=beq_self_eq_true r0;have en1:(r1 !=r1)=false:=bne_self_eq_false r1;have ee1:(r1==r1)=true:=beq_self_eq_true r1;have ee_a0:eqb a0 a0=true:=fH a0
 go_wp2_with fail
 refine(fJ a0 _ (ta0.below e.h) SM0.out).mono ?_;rintro _ W11 ⟨B11,D11,q11,rfl,z11,T11,O11⟩;have lo11:∀b∈q11,e.to.heap.size≤b∧b<W11.heap.size:=fun b hb=>⟨(O11.2 b hb).1,T11.lt b hb⟩
 have sz11:=e.h.size;have sw11:=(Ext.trans hy22 e.h).size;have hq23:=Ext.trans e.h z11;have hs23:=hq23.size
 replace k1_0:=k1_0.ext hq23
 replace kx1_0:=kx1_0.ext hq23
 replace ta0:=ta0.below hq23
 replace ta2:=ta2.below hq23
 replace ta1:=ta1.below hq23
 replace T7:=T7.below hq23
 replace T8:=T8.below hq23
 replace T9:=T9.below hq23
 replace O7:=O7.below hq23
 replace O8:=O8.below hq23
 replace O9:=O9.below hq23
 have hy24:=Ext.trans hy22 hq23;obtain⟨e,he⟩:∃e:ExtOf W11,W11=e.to:=⟨⟨W11,Below.refl _ _⟩,rfl⟩;rw[he];clear he
 go_wp2_with fail
 refine(wE a0 a0 _ (T7.below e.h) (T11.below e.h) (by have:=T7.jS;unfold maxLen;omega) (by have:=T7.jS;unfold maxLen;omega)).mono ?_;rintro _ W12 ⟨rfl,z12⟩;have hq25:=Ext.trans e.h z12;have hs25:=hq25.size
 replace k1_0:=k1_0.ext hq25
 replace kx1_0:=kx1_0.ext hq25
 replace ta0:=ta0.below hq25
 replace ta2:=ta2.below hq25
 replace ta1:=ta1.below hq25
 replace T7:=T7.below hq25
 replace T8:=T8.below hq25
 replace T9:=T9.below hq25
 replace T11:=T11.below hq25
 replace O7:=O7.below hq25
 replace O8:=O8.below hq25
 replace O9:=O9.below hq25
 replace O11:=O11.below hq25
 have hy26:=Ext.trans hy24 hq25;obtain⟨e,he⟩:∃e:ExtOf W12,W12=e.to:=⟨⟨W12,Below.refl _ _⟩,rfl⟩;rw[he];clear he;have ee_a1:eqb a1 a1=true:=fH a1
 go_wp2_with fail
 refine jd _ (by kernel_rfl) 5 (by kernel_rfl) ?_;refine bH 0 rfl (by kernel_rfl) ?_;go_big_quiet_step (fail);refine wpQuiet_nil ?_;refine bH 1 rfl (by kernel_rfl) ?_;go_big_quiet_step (fail);refine wpQuiet_nil ?_;refine eO 2 rfl (by kernel_rfl) (fun e=> ?_)
 go_wp2_with fail
 refine(gD a1 _ (ta1.below e.h) SM1.out).mono ?_;rintro _ W13 ⟨_,q13,rfl,z13,T13,O13⟩;obtain⟨_,_,_,rfl, -⟩:=aH.us T13;have lo13:∀b∈q13,e.to.heap.size≤b∧b<W13.heap.size:=fun b hb=>⟨(O13.2 b hb).1,T13.lt b hb⟩
 have sz13:=e.h.size;have sw13:=(Ext.trans hy26 e.h).size
 go_wp2_with fail
 refine aI z13 ?_;have hq27:=Ext.trans e.h z13;have hs27:=hq27.size
 replace k1_0:=k1_0.ext hq27
 replace kx1_0:=kx1_0.ext hq27
 replace ta0:=ta0.below hq27
 replace ta2:=ta2.below hq27
 replace ta1:=ta1.below hq27
 replace T7:=T7.below hq27
 replace T8:=T8.below hq27
 replace T9:=T9.below hq27
 replace O7:=O7.below hq27
 replace O8:=O8.below hq27
 replace O9:=O9.below hq27
 have hy28:=Ext.trans hy26 hq27;refine eO 3 rfl (by kernel_rfl) (fun e=> ?_)
 go_wp2_with fail
 refine(jm a1 a1 _ (T8.below e.h) (T13.below e.h)).mono ?_;rintro _ W14 ⟨rfl,z14⟩
 go_wp2_with fail
 refine aI z14 ?_;have hq29:=Ext.trans e.h z14;have hs29:=hq29.size
 replace k1_0:=k1_0.ext hq29
 replace kx1_0:=kx1_0.ext hq29
 replace ta0:=ta0.below hq29
 replace ta2:=ta2.below hq29
 replace ta1:=ta1.below hq29
 replace T7:=T7.below hq29
 replace T8:=T8.below hq29
 replace T9:=T9.below hq29
 replace T13:=T13.below hq29
 replace O7:=O7.below hq29
 replace O8:=O8.below hq29
 replace O9:=O9.below hq29
 replace O13:=O13.below hq29
 have hy30:=Ext.trans hy28 hq29;refine bH 4 rfl (by kernel_rfl) ?_;go_big_quiet_step (fail);refine wpQuiet_nil ?_;refine oM (by kernel_rfl) (fun e=> ?_);have ee_a2:eqb a2 a2=true:=fH a2
 go_wp2_with fail
 refine(dU a2 _ (ta2.below e.h) hsl2).mono ?_;rintro _ W15 ⟨B15,D15,q15,rfl,z15,T15,O15⟩;have lo15:∀b∈q15,e.to.heap.size≤b∧b<W15.heap.size:=fun b hb=>⟨(O15.2 b hb).1,T15.lt b hb⟩
 have sz15:=e.h.size;have sw15:=(Ext.trans hy30 e.h).size;have hq31:=Ext.trans e.h z15;have hs31:=hq31.size
 replace k1_0:=k1_0.ext hq31
 replace kx1_0:=kx1_0.ext hq31
 replace ta0:=ta0.below hq31
 replace ta2:=ta2.below hq31
 replace ta1:=ta1.below hq31
 replace T7:=T7.below hq31
 replace T8:=T8.below hq31
 replace T9:=T9.below hq31
 replace O7:=O7.below hq31
 replace O8:=O8.below hq31
 replace O9:=O9.below hq31
 have hy32:=Ext.trans hy30 hq31;obtain⟨e,he⟩:∃e:ExtOf W15,W15=e.to:=⟨⟨W15,Below.refl _ _⟩,rfl⟩;rw[he];clear he
 go_wp2_with fail
 refine(eB a2 a2 _ (T9.below e.h) (T15.below e.h) (by have:=T9.jS;unfold maxLen;omega) (by have:=T9.jS;unfold maxLen;omega)).mono ?_;rintro _ W16 ⟨rfl,z16⟩;have hq33:=Ext.trans e.h z16;have hs33:=hq33.size
 replace k1_0:=k1_0.ext hq33
 replace kx1_0:=kx1_0.ext hq33
 replace ta0:=ta0.below hq33
 replace ta2:=ta2.below hq33
 replace ta1:=ta1.below hq33
 replace T7:=T7.below hq33
 replace T8:=T8.below hq33
 replace T9:=T9.below hq33
 replace T15:=T15.below hq33
 replace O7:=O7.below hq33
 replace O8:=O8.below hq33
 replace O9:=O9.below hq33
 replace O15:=O15.below hq33
 have hy34:=Ext.trans hy32 hq33;obtain⟨e,he⟩:∃e:ExtOf W16,W16=e.to:=⟨⟨W16,Below.refl _ _⟩,rfl⟩;rw[he];clear he
 go_wp2_with fail
 go_ret;exact⟨rfl,ExtOf.old hy34 e⟩
end Go.Proofs.YtemalpelcdmemaaGreat
