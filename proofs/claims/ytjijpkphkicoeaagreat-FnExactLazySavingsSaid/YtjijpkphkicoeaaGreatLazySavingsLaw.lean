
/- The law FnExactLazySavings, walked. Printed by gen_law.py. -/
import Derived.Test.YtjijpkphkicoeaaGreatShort
import Derived.Test.YtjijpkphkicoeaaGreatProg
import Derived.Test.YtjijpkphkicoeaaGreatLazySavingsBoth
import Derived.Test.YtjijpkphkicoeaaGreatKDbg
import Derived.Test.YtjijpkphkicoeaaGreatZDbg
import Derived.Test.YtjijpkphkicoeaaGreatSc
import Derived.BigGuardPart
import Derived.Outline
import Derived.Deep.CutBlock
set_option linter.unusedSimpArgs false
set_option linter.unusedVariables false
namespace Go.Proofs.YtjijpkphkicoeaaGreat
open Go Go.RowKit Go.Proofs Go.Tr
set_option maxRecDepth 100000 in
set_option maxHeartbeats 16000000 in
theorem C9(a0:(List aQ)){A0:Option Addr}{c0:Nat}{p0:List Nat}(a1:aQ){p1:List Nat}{u1:List Value}(a2:Int)(w:World)(ta0:T1 w (.sl a0.length (a0.flatMap aQ.enc)) p0 (.slice A0 a0.length c0))(ta1:TN w a1.enc p1 u1):Calls Tryz.prog 11 #[.slice A0 a0.length c0,.agg u1.toArray,.int .i64 a2] w fun e w'=>e=.returned (.bool (true))∧Ext w w':=by
 refine aT fun e=> ?_
 obtain⟨⟨r0,r1⟩,hR0⟩:∃R,R=su a0 a1 a2:=⟨_,rfl⟩;have hR:=Lib.hid hR0;clear hR0;obtain⟨_,_,_,rfl, -⟩:=aQ.us (x:=a1) ta1;have loa1:∀b∈p1,0≤b∧b<w.heap.size:=fun b hb=>⟨Nat.zero_le _,ta1.lt b hb⟩
 have loa0:∀b∈p0,0≤b∧b<w.heap.size:=fun b hb=>⟨Nat.zero_le _,ta0.lt b hb⟩
 have hna0:=ta0.xI
 go_enter Tryz.func11,Tryz.ntmps11
 go_upto_region 1 with(fail)
 generalize hgg1:e.to.heap.size=g1;refine gU e hgg1 (fun w1 e hx1 hgeg1 hltg1 cg1=> ?_);clear hgg1
 replace ta0:=ta0.below hx1
 replace ta1:=ta1.below hx1
 have k1_0:=cg1.always hltg1 0 _ rfl;simp only[Nat.zero_add]at k1_0;clear cg1
 go_wp2_with fail
 refine(Mt a0 1048576 _ (ta0.below e.h) (by unfold maxLen;omega) (by omega) (by omega)).mono ?_;rintro _ W1 ⟨z1,L0,rfl,hr0⟩;have hq2:=Ext.trans e.h z1;have hs2:=hq2.size
 replace k1_0:=k1_0.ext hq2
 replace ta0:=ta0.below hq2
 replace ta1:=ta1.below hq2
 have hy3:=Ext.trans hx1 hq2;obtain⟨e,he⟩:∃e:bf W1,W1=e.to:=⟨⟨W1,Below.refl _ _⟩,rfl⟩;rw[he];clear he;rcases hr0 with rfl|⟨hr0_0,hr1_0,sm0⟩
 case inl=>
  go_wp2_with fail
  go_ret;exact⟨rfl,bf.old hy3 e⟩
 have hr2_0:L0≤1048576:=by omega
 have SM0:=Lib.hid sm0;have HL0:=Lib.hid hr1_0;clear sm0 hr1_0
 go_wp2_with fail
 obtain⟨_,_,_, -, -, -,nl1_0,ml1_0⟩:=aQ.us (x:=a1) (TN.below ta1 e.h);refine(Gp a1 L0 _ (ta1.below e.h) (Nat.le_trans nl1_0 ml1_0) (by omega) (by omega)).mono ?_;rintro _ W2 ⟨z2,L1,rfl,hr1⟩;have hq4:=Ext.trans e.h z2;have hs4:=hq4.size
 replace k1_0:=k1_0.ext hq4
 replace ta0:=ta0.below hq4
 replace ta1:=ta1.below hq4
 have hy5:=Ext.trans hy3 hq4;obtain⟨e,he⟩:∃e:bf W2,W2=e.to:=⟨⟨W2,Below.refl _ _⟩,rfl⟩;rw[he];clear he;rcases hr1 with rfl|⟨hr0_1,hr1_1,sm1⟩
 case inl=>
  go_wp2_with fail
  go_ret;exact⟨rfl,bf.old hy5 e⟩
 have hr2_1:L1≤1048576:=by omega
 have SM1:=Lib.hid sm1;have HL1:=Lib.hid hr1_1;clear sm1 hr1_1
 go_wp2_with fail
 refine wN _ (by kernel_rfl) 11 (by kernel_rfl) ?_;refine jd 0 rfl (by kernel_rfl) ?_;go_big_quiet_step (fail);refine wpQuiet_nil ?_;refine jd 2 rfl (by kernel_rfl) ?_;go_big_quiet_step (fail);refine wpQuiet_nil ?_;refine jd 4 rfl (by kernel_rfl) ?_;go_big_quiet_step (fail);refine wpQuiet_nil ?_;refine tK 1 rfl (by kernel_rfl) (fun e=> ?_)
 go_wp2_with fail
 refine(yK a0 _ (ta0.below e.h) SM0.out).mono ?_;rintro _ W3 ⟨B3,D3,q3,rfl,z3,T3,O3⟩;have lo3:∀b∈q3,e.to.heap.size≤b∧b<W3.heap.size:=fun b hb=>⟨(O3.2 b hb).1,T3.lt b hb⟩
 have sz3:=e.h.size;have sw3:=(Ext.trans hy5 e.h).size
 go_wp2_with fail
 refine aI z3 ?_;have hq6:=Ext.trans e.h z3;have hs6:=hq6.size
 replace k1_0:=k1_0.ext hq6
 replace ta0:=ta0.below hq6
 replace ta1:=ta1.below hq6
 have hy7:=Ext.trans hy5 hq6;refine tK 3 rfl (by kernel_rfl) (fun e=> ?_)
 go_wp2_with fail
 refine(xD a1 _ (ta1.below e.h) SM1.out).mono ?_;rintro _ W4 ⟨_,q4,rfl,z4,T4,O4⟩;obtain⟨_,_,_,rfl, -⟩:=aQ.us T4;have lo4:∀b∈q4,e.to.heap.size≤b∧b<W4.heap.size:=fun b hb=>⟨(O4.2 b hb).1,T4.lt b hb⟩
 have sz4:=e.h.size;have sw4:=(Ext.trans hy7 e.h).size
 go_wp2_with fail
 refine aI z4 ?_;have hq8:=Ext.trans e.h z4;have hs8:=hq8.size
 replace k1_0:=k1_0.ext hq8
 replace ta0:=ta0.below hq8
 replace ta1:=ta1.below hq8
 replace T3:=T3.below hq8
 replace O3:=O3.below hq8
 have hy9:=Ext.trans hy7 hq8;refine tK 5 rfl (by kernel_rfl) (fun e=> ?_)
 go_wp2_with fail
 refine(Aq a0 a1 a2 r0 r1 hR _ (T3.below e.h) (T4.below e.h)).mono ?_;rintro _ W5 ⟨rfl,z5⟩;have sz5:=e.h.size;have sw5:=(Ext.trans hy9 e.h).size
 go_wp2_with fail
 refine aI z5 ?_;have hq10:=Ext.trans e.h z5;have hs10:=hq10.size
 replace k1_0:=k1_0.ext hq10
 replace ta0:=ta0.below hq10
 replace ta1:=ta1.below hq10
 replace T3:=T3.below hq10
 replace T4:=T4.below hq10
 replace O3:=O3.below hq10
 replace O4:=O4.below hq10
 have hy11:=Ext.trans hy9 hq10;refine jd 6 rfl (by kernel_rfl) ?_;go_big_quiet_step (fail);refine wpQuiet_nil ?_;refine jd 7 rfl (by kernel_rfl) ?_;go_big_quiet_step (fail);refine wpQuiet_nil ?_;refine jd 8 rfl (by kernel_rfl) ?_;go_big_quiet_step (fail);refine wpQuiet_nil ?_;refine jd 9 rfl (by kernel_rfl) ?_;go_big_quiet_step (fail);refine wpQuiet_nil ?_;refine jd 10 rfl (by kernel_rfl) ?_;go_big_quiet_step (fail);refine wpQuiet_nil ?_;refine FN (by kernel_rfl) (fun e=> ?_)
 go_wp2_with fail
 refine(yK a0 _ (ta0.below e.h) SM0.out).mono ?_;rintro _ W6 ⟨B6,D6,q6,rfl,z6,T6,O6⟩;have lo6:∀b∈q6,e.to.heap.size≤b∧b<W6.heap.size:=fun b hb=>⟨(O6.2 b hb).1,T6.lt b hb⟩
 have sz6:=e.h.size;have sw6:=(Ext.trans hy11 e.h).size;have hq12:=Ext.trans e.h z6;have hs12:=hq12.size
 replace k1_0:=k1_0.ext hq12
 replace ta0:=ta0.below hq12
 replace ta1:=ta1.below hq12
 have hy13:=Ext.trans hy11 hq12;obtain⟨e,he⟩:∃e:bf W6,W6=e.to:=⟨⟨W6,Below.refl _ _⟩,rfl⟩;rw[he];clear he
 go_wp2_with fail
 refine(xD a1 _ (ta1.below e.h) SM1.out).mono ?_;rintro _ W7 ⟨_,q7,rfl,z7,T7,O7⟩;obtain⟨_,_,_,rfl, -⟩:=aQ.us T7;have lo7:∀b∈q7,e.to.heap.size≤b∧b<W7.heap.size:=fun b hb=>⟨(O7.2 b hb).1,T7.lt b hb⟩
 have sz7:=e.h.size;have sw7:=(Ext.trans hy13 e.h).size;have hq14:=Ext.trans e.h z7;have hs14:=hq14.size
 replace k1_0:=k1_0.ext hq14
 replace ta0:=ta0.below hq14
 replace ta1:=ta1.below hq14
 replace T6:=T6.below hq14
 replace O6:=O6.below hq14
 have hy15:=Ext.trans hy13 hq14;obtain⟨e,he⟩:∃e:bf W7,W7=e.to:=⟨⟨W7,Below.refl _ _⟩,rfl⟩
 go_upto_region 11 with(fail)
 clear he;generalize hggx1:e.to.heap.size=gx1;refine gU e hggx1 (fun w16 e hx16 hgegx1 hltgx1 cgx1=> ?_);clear hggx1
 replace k1_0:=k1_0.ext hx16
 replace ta0:=ta0.below hx16
 replace ta1:=ta1.below hx16
 replace T6:=T6.below hx16
 replace T7:=T7.below hx16
 replace O6:=O6.below hx16
 replace O7:=O7.below hx16
 have hy16:=Ext.trans hy15 hx16;have hs_gx1:=hx16.size;have kx1_0:=cgx1.always hltgx1 0 _ rfl;simp only[Nat.zero_add]at kx1_0;clear cgx1
 go_wp2_with fail
 refine(Ap a0 a1 a2 r0 r1 hR _ (T6.below e.h) (T7.below e.h)).mono ?_;rintro _ W8 ⟨rfl,z8⟩;have sz8:=e.h.size;have sw8:=(Ext.trans hy16 e.h).size;have hq17:=Ext.trans e.h z8;have hs17:=hq17.size
 replace k1_0:=k1_0.ext hq17
 replace kx1_0:=kx1_0.ext hq17
 replace ta0:=ta0.below hq17
 replace ta1:=ta1.below hq17
 replace T6:=T6.below hq17
 replace T7:=T7.below hq17
 replace O6:=O6.below hq17
 replace O7:=O7.below hq17
 have hy18:=Ext.trans hy16 hq17;obtain⟨e,he⟩:∃e:bf W8,W8=e.to:=⟨⟨W8,Below.refl _ _⟩,rfl⟩;rw[he];clear he;have en0:(r0 !=r0)=false:=bne_self_eq_false r0;have ee0:(r0==r0)=true:=beq_self_eq_true r0;have en1:(r1 !=r1)=false:=bne_self_eq_false r1;have ee1:(r1==r1)=true:=beq_self_eq_true r1;have ee_a0:wS a0 a0=true:=tF a0
 go_wp2_with fail
 refine(yK a0 _ (ta0.below e.h) SM0.out).mono ?_;rintro _ W9 ⟨B9,D9,q9,rfl,z9,T9,O9⟩;have lo9:∀b∈q9,e.to.heap.size≤b∧b<W9.heap.size:=fun b hb=>⟨(O9.2 b hb).1,T9.lt b hb⟩
 have sz9:=e.h.size;have sw9:=(Ext.trans hy18 e.h).size;have hq19:=Ext.trans e.h z9;have hs19:=hq19.size
 replace k1_0:=k1_0.ext hq19
 replace kx1_0:=kx1_0.ext hq19
 replace ta0:=ta0.below hq19
 replace ta1:=ta1.below hq19
 replace T6:=T6.below hq19
 replace T7:=T7.below hq19
 replace O6:=O6.below hq19
 replace O7:=O7.below hq19
 have hy20:=Ext.trans hy18 hq19;obtain⟨e,he⟩:∃e:bf W9,W9=e.to:=⟨⟨W9,Below.refl _ _⟩,rfl⟩;rw[he];clear he
 go_wp2_with fail
 refine(Lr a0 a0 _ (T6.below e.h) (T9.below e.h) (by have:=T6.xI;unfold maxLen;omega) (by have:=T6.xI;unfold maxLen;omega)).mono ?_;rintro _ W10 ⟨rfl,z10⟩;have hq21:=Ext.trans e.h z10;have hs21:=hq21.size
 replace k1_0:=k1_0.ext hq21
 replace kx1_0:=kx1_0.ext hq21
 replace ta0:=ta0.below hq21
 replace ta1:=ta1.below hq21
 replace T6:=T6.below hq21
 replace T7:=T7.below hq21
 replace T9:=T9.below hq21
 replace O6:=O6.below hq21
 replace O7:=O7.below hq21
 replace O9:=O9.below hq21
 have hy22:=Ext.trans hy20 hq21;obtain⟨e,he⟩:∃e:bf W10,W10=e.to:=⟨⟨W10,Below.refl _ _⟩,rfl⟩;rw[he];clear he;have ee_a1:wS a1 a1=true:=tF a1
 go_wp2_with fail
 refine wN _ (by kernel_rfl) 5 (by kernel_rfl) ?_;refine jd 0 rfl (by kernel_rfl) ?_;go_big_quiet_step (fail);refine wpQuiet_nil ?_;refine jd 1 rfl (by kernel_rfl) ?_;go_big_quiet_step (fail);refine wpQuiet_nil ?_;refine tK 2 rfl (by kernel_rfl) (fun e=> ?_)
 go_wp2_with fail
 refine(xD a1 _ (ta1.below e.h) SM1.out).mono ?_;rintro _ W11 ⟨_,q11,rfl,z11,T11,O11⟩;obtain⟨_,_,_,rfl, -⟩:=aQ.us T11;have lo11:∀b∈q11,e.to.heap.size≤b∧b<W11.heap.size:=fun b hb=>⟨(O11.2 b hb).1,T11.lt b hb⟩
 have sz11:=e.h.size;have sw11:=(Ext.trans hy22 e.h).size
 go_wp2_with fail
 refine aI z11 ?_;have hq23:=Ext.trans e.h z11;have hs23:=hq23.size
 replace k1_0:=k1_0.ext hq23
 replace kx1_0:=kx1_0.ext hq23
 replace ta0:=ta0.below hq23
 replace ta1:=ta1.below hq23
 replace T6:=T6.below hq23
 replace T7:=T7.below hq23
 replace O6:=O6.below hq23
 replace O7:=O7.below hq23
 have hy24:=Ext.trans hy22 hq23;refine tK 3 rfl (by kernel_rfl) (fun e=> ?_)
 go_wp2_with fail
 refine(Af a1 a1 _ (T7.below e.h) (T11.below e.h)).mono ?_;rintro _ W12 ⟨rfl,z12⟩
 go_wp2_with fail
 refine aI z12 ?_;have hq25:=Ext.trans e.h z12;have hs25:=hq25.size
 replace k1_0:=k1_0.ext hq25
 replace kx1_0:=kx1_0.ext hq25
 replace ta0:=ta0.below hq25
 replace ta1:=ta1.below hq25
 replace T6:=T6.below hq25
 replace T7:=T7.below hq25
 replace T11:=T11.below hq25
 replace O6:=O6.below hq25
 replace O7:=O7.below hq25
 replace O11:=O11.below hq25
 have hy26:=Ext.trans hy24 hq25;refine jd 4 rfl (by kernel_rfl) ?_;go_big_quiet_step (fail);refine wpQuiet_nil ?_;refine FN (by kernel_rfl) (fun e=> ?_)
 go_wp2_with fail
 go_ret;exact⟨rfl,bf.old hy26 e⟩
end Go.Proofs.YtjijpkphkicoeaaGreat
