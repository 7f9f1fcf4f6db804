
/- The law FnExactReduceRounds, walked. Printed by gen_law.py. -/
import Derived.Test.YtcjhkgfmklgikaaGreatShort
import Derived.Test.YtcjhkgfmklgikaaGreatProg
import Derived.Test.YtcjhkgfmklgikaaGreatReduceRoundsBoth
import Derived.Test.YtcjhkgfmklgikaaGreatKDbg
import Derived.Test.YtcjhkgfmklgikaaGreatZDbg
import Derived.Test.YtcjhkgfmklgikaaGreatSc
import Derived.Test.YtcjhkgfmklgikaaGreatFl
import Derived.BigGuardPart
import Derived.Outline
import Derived.Deep.CutBlock
set_option linter.unusedSimpArgs false
set_option linter.unusedVariables false
namespace Go.Proofs.YtcjhkgfmklgikaaGreat
open Go Go.RowKit Go.Proofs Go.Tr
set_option maxRecDepth 100000 in
set_option maxHeartbeats 16000000 in
theorem Zan(a0:(List aO)){A0:Option Addr}{c0:Nat}{p0:List Nat}(a1:aO){p1:List Nat}{u1:List Value}(a2:Int)(w:World)(ta0:T1 w (.sl a0.length (a0.flatMap aO.enc)) p0 (.slice A0 a0.length c0))(ta1:TN w a1.enc p1 u1):Calls Tryz.prog 3 #[.slice A0 a0.length c0,.agg u1.toArray,.int .i64 a2] w fun e w'=>e=.returned (.bool (true))∧Ext w w':=by
 refine aS fun e=> ?_
 obtain⟨⟨r0,r1,r2,r3⟩,hR0⟩:∃R,R=Z8 a0 a1 a2:=⟨_,rfl⟩;have hR:=Lib.hid hR0;clear hR0;obtain⟨_,_,_,rfl, -⟩:=aO.us (x:=a1) ta1;have loa1:∀b∈p1,0≤b∧b<w.heap.size:=fun b hb=>⟨Nat.zero_le _,ta1.lt b hb⟩
 have loa0:∀b∈p0,0≤b∧b<w.heap.size:=fun b hb=>⟨Nat.zero_le _,ta0.lt b hb⟩
 have hna0:=ta0.sU
 go_enter Tryz.func3,Tryz.ntmps3
 go_upto_region 1 with(fail)
 generalize hgg1:e.to.heap.size=g1;refine gW e hgg1 (fun w1 e hx1 hgeg1 hltg1 cg1=> ?_);clear hgg1
 replace ta0:=ta0.below hx1
 replace ta1:=ta1.below hx1
 have k1_0:=cg1.always hltg1 0 _ rfl;simp only[Nat.zero_add]at k1_0;clear cg1
 go_wp2_with fail
 refine(Lu a0 1048576 _ (ta0.below e.h) (by unfold maxLen;omega) (by omega) (by omega)).mono ?_;rintro _ W1 ⟨z1,L0,rfl,hr0⟩;have hq2:=Ext.trans e.h z1;have hs2:=hq2.size
 replace k1_0:=k1_0.ext hq2
 replace ta0:=ta0.below hq2
 replace ta1:=ta1.below hq2
 have hy3:=Ext.trans hx1 hq2;obtain⟨e,he⟩:∃e:aQ W1,W1=e.to:=⟨⟨W1,Below.refl _ _⟩,rfl⟩;rw[he];clear he;rcases hr0 with rfl|⟨hr0_0,hr1_0,sm0⟩
 case inl=>
  go_wp2_with fail
  go_ret;exact⟨rfl,aQ.old hy3 e⟩
 have hr2_0:L0≤1048576:=by omega
 have SM0:=Lib.hid sm0;have HL0:=Lib.hid hr1_0;clear sm0 hr1_0
 go_wp2_with fail
 obtain⟨_,_,_, -, -, -,nl1_0,ml1_0⟩:=aO.us (x:=a1) (TN.below ta1 e.h);refine(FU a1 L0 _ (ta1.below e.h) (Nat.le_trans nl1_0 ml1_0) (by omega) (by omega)).mono ?_;rintro _ W2 ⟨z2,L1,rfl,hr1⟩;have hq4:=Ext.trans e.h z2;have hs4:=hq4.size
 replace k1_0:=k1_0.ext hq4
 replace ta0:=ta0.below hq4
 replace ta1:=ta1.below hq4
 have hy5:=Ext.trans hy3 hq4;obtain⟨e,he⟩:∃e:aQ W2,W2=e.to:=⟨⟨W2,Below.refl _ _⟩,rfl⟩;rw[he];clear he;rcases hr1 with rfl|⟨hr0_1,hr1_1,sm1⟩
 case inl=>
  go_wp2_with fail
  go_ret;exact⟨rfl,aQ.old hy5 e⟩
 have hr2_1:L1≤1048576:=by omega
 have SM1:=Lib.hid sm1;have HL1:=Lib.hid hr1_1;clear sm1 hr1_1
 go_wp2_with fail
 refine Zam e (W2.heap.size) (by kernel_rfl) 16 (by kernel_rfl) (fun wR6 hxwR6=> ?_);have hs_wR6:=hxwR6.size
 replace k1_0:=k1_0.ext hxwR6
 replace ta0:=ta0.below hxwR6
 replace ta1:=ta1.below hxwR6
 have hy7:=Ext.trans hy5 hxwR6;have B_k1_0:=k1_0.b (N:=W2.heap.size) (by omega);refine ZaC ⟨11,8,fun g=>.pointer (some ⟨g,0,none⟩),.cells #[.slice none 0 0] 30⟩ ⟨⟨_,rfl,rfl⟩,fun K a w h=>WJ rfl (by go_wp2_with fail;exact h)⟩ (fun hfl=> ?_);refine Z7 0 rfl (by omega) hfl (by kernel_rfl) ?_;go_big_quiet_step (fail);refine wpQuiet_nil ?_;refine Z7 2 rfl (by omega) hfl (by kernel_rfl) ?_;go_big_quiet_step (fail);refine wpQuiet_nil ?_;refine Z7 4 rfl (by omega) hfl (by kernel_rfl) ?_;go_big_quiet_step (fail);refine wpQuiet_nil ?_;refine Zag 1 rfl (by omega) (fun x hx=>by simp at hx) hfl (by kernel_rfl) (fun e=> ?_)
 go_wp2_with fail
 refine(vC a0 _ (ta0.below e.h) SM0.out).mono ?_;rintro _ W3 ⟨B3,D3,q3,rfl,z3,T3,O3⟩;have lo3:∀b∈q3,e.to.heap.size≤b∧b<W3.heap.size:=fun b hb=>⟨(O3.2 b hb).1,T3.lt b hb⟩
 have sz3:=e.h.size;have sw3:=(Ext.trans hy7 e.h).size
 go_wp2_with fail
 refine aI z3 ⟨q3,lo3,?_⟩;have hq8:=Ext.trans e.h z3;have hs8:=hq8.size
 replace k1_0:=k1_0.ext hq8
 replace ta0:=ta0.below hq8
 replace ta1:=ta1.below hq8
 have hy9:=Ext.trans hy7 hq8
 replace B_k1_0:=B_k1_0.go (hq8.mono (by omega))
 refine Zag 3 rfl (by omega) (fun x hx=>by simp only[qT,List.mem_cons,List.not_mem_nil,or_false,false_or,qS,or_assoc]at hx;have h1:=lo3 x hx;omega) hfl (by kernel_rfl) (fun e=> ?_)
 go_wp2_with fail
 refine(uz a1 _ (ta1.below e.h) SM1.out).mono ?_;rintro _ W4 ⟨_,q4,rfl,z4,T4,O4⟩;obtain⟨_,_,_,rfl, -⟩:=aO.us T4;have lo4:∀b∈q4,e.to.heap.size≤b∧b<W4.heap.size:=fun b hb=>⟨(O4.2 b hb).1,T4.lt b hb⟩
 have sz4:=e.h.size;have sw4:=(Ext.trans hy9 e.h).size
 go_wp2_with fail
 refine aI z4 ⟨q4,lo4,?_⟩;have hq10:=Ext.trans e.h z4;have hs10:=hq10.size
 replace k1_0:=k1_0.ext hq10
 replace ta0:=ta0.below hq10
 replace ta1:=ta1.below hq10
 replace T3:=T3.below hq10
 replace O3:=O3.below hq10
 have hy11:=Ext.trans hy9 hq10
 replace B_k1_0:=B_k1_0.go (hq10.mono (by omega))
 refine Zag 5 rfl (by omega) (fun x hx=>by simp only[qT,List.mem_cons,List.not_mem_nil,or_false,false_or,qS,or_assoc]at hx;rcases hx with hx|hx<;>first|(have h1:=lo4 x hx;omega)|(have h1:=lo3 x hx;omega)) hfl (by kernel_rfl) (fun e=> ?_)
 go_wp2_with fail
 refine(Zai a0 a1 a2 r0 r1 r2 r3 hR _ (T3.below e.h) (T4.below e.h)).mono ?_;rintro _ W5 ⟨_,q5_0,B5_1,D5_1,q5_1,rfl,z5,T5_0,T5_1,O5⟩;obtain⟨A5_0_0,c5_0_0,_,rfl, -⟩:=aO.us T5_0;obtain⟨O5_0,O5_1,dj5_1⟩:=Own.parts O5;have lo5_0:∀b∈q5_0,e.to.heap.size≤b∧b<W5.heap.size:=fun b hb=>⟨(O5_0.2 b hb).1,T5_0.lt b hb⟩
 have lo5_1:∀b∈q5_1,e.to.heap.size≤b∧b<W5.heap.size:=fun b hb=>⟨(O5_1.2 b hb).1,T5_1.lt b hb⟩
 have sz5:=e.h.size;have sw5:=(Ext.trans hy11 e.h).size;have ap5_0_1:∀y∈q5_0,y∉q5_1:=fun y hm=>dj5_1 y hm
 go_wp2_with fail
 refine aI z5 ⟨q5_0++q5_1,fun b hb=>(qT.1 hb).elim (lo5_0 b) (lo5_1 b),?_⟩;have hq12:=Ext.trans e.h z5;have hs12:=hq12.size
 replace k1_0:=k1_0.ext hq12
 replace ta0:=ta0.below hq12
 replace ta1:=ta1.below hq12
 replace T3:=T3.below hq12
 replace T4:=T4.below hq12
 replace O3:=O3.below hq12
 replace O4:=O4.below hq12
 have hy13:=Ext.trans hy11 hq12
 replace B_k1_0:=B_k1_0.go (hq12.mono (by omega))
 refine Z7 6 rfl (by omega) hfl (by kernel_rfl) ?_;go_big_quiet_step (fail);refine wpQuiet_nil ?_;refine Z7 7 rfl (by omega) hfl (by kernel_rfl) ?_;go_big_quiet_step (fail);refine wpQuiet_nil ?_;refine Z7 8 rfl (by omega) hfl (by kernel_rfl) ?_;go_big_quiet_step (fail);refine wpQuiet_nil ?_;refine Z7 9 rfl (by omega) hfl (by kernel_rfl) ?_;go_big_quiet_step (fail);refine wpQuiet_nil ?_;refine Z7 10 rfl (by omega) hfl (by kernel_rfl) ?_;go_big_quiet_step (fail);refine wpQuiet_nil ?_;refine ZaM (by omega) (fun x hx=>by simp only[qT,List.mem_cons,List.not_mem_nil,or_false,false_or,qS,or_assoc]at hx;rcases hx with hx|hx|hx|hx<;>first|(have h1:=lo5_0 x hx;omega)|(have h1:=lo5_1 x hx;omega)|(have h1:=lo4 x hx;omega)|(have h1:=lo3 x hx;omega)) hfl (by kernel_rfl) (fun gf8 wL8 hxwL8 hgegf8 hnxgf8 rowgf8=> ?_)
 have hn_gf8_0:∀y∈q5_0,y≠gf8:=fun y hy h=>hnxgf8 (by simp[←h,hy])
 have hn_gf8_1:∀y∈q5_1,y≠gf8:=fun y hy h=>hnxgf8 (by simp[←h,hy])
 clear hnxgf8 hfl;have hltgf8:=ji rowgf8;have hs_wL8:=hxwL8.size;have fgf8:=Zz rowgf8;have cgf8_0:=ZA rowgf8 0 (v:=.slice none 0 0) rfl;clear B_k1_0
 replace k1_0:=k1_0.ext hxwL8
 replace ta0:=ta0.below hxwL8
 replace ta1:=ta1.below hxwL8
 replace T5_0:=T5_0.below hxwL8
 replace T5_1:=T5_1.below hxwL8
 replace O5_0:=O5_0.below hxwL8
 replace O5_1:=O5_1.below hxwL8
 have hy14:=Ext.trans hy13 hxwL8;refine ZaZ 12 rfl (by kernel_rfl) (fun e he=> ?_);clear he
 go_wp2_with fail
 generalize hW:World.setCell e.to ⟨gf8,0,none⟩ (.slice A5_0_0 r0.agents.length c5_0_0)=wS8;have hbwS8:vM [gf8] e.to wS8:=by rw[←hW];exact ng.rZ ((ng.refl _ _).setCell (by simp) _ _)
 have nrgf8:wS8.heap[gf8]? =some (.cells #[.slice A5_0_0 r0.agents.length c5_0_0] 30 (0,0)):=by rw[←hW];exact(Rows.nO (RH rowgf8 e))
 clear hW;refine aI (vM.below hbwS8 (by have:=e.h.size;omega) (fun y hm=>by simp at hm;omega)) ?_;have hs_wS8:=Nat.le_trans e.h.size hbwS8.size
 replace k1_0:=k1_0.rZ e hbwS8 (by omega) (fun hm=>by simp at hm;omega)
 replace ta0:=(ta0.below e.h).rZ hbwS8 (fun y hy hm=>by have h1:=loa0 y hy;simp at hm;omega)
 replace ta1:=(ta1.below e.h).rZ hbwS8 (fun y hy hm=>by have h1:=loa1 y hy;simp at hm;omega)
 replace T5_0:=(T5_0.below e.h).rZ hbwS8 (fun y hy hm=>by have h1:=lo5_0 y hy;have h2:=hn_gf8_0 y hy;simp at hm;omega)
 replace O5_0:=(O5_0.below e.h).rZ hbwS8 (fun y hy hm=>by have h1:=lo5_0 y hy;have h2:=hn_gf8_0 y hy;simp at hm;omega)
 replace T5_1:=(T5_1.below e.h).rZ hbwS8 (fun y hy hm=>by have h1:=lo5_1 y hy;have h2:=hn_gf8_1 y hy;simp at hm;omega)
 replace O5_1:=(O5_1.below e.h).rZ hbwS8 (fun y hy hm=>by have h1:=lo5_1 y hy;have h2:=hn_gf8_1 y hy;simp at hm;omega)
 have hy_wS8:Ext w wS8:=Below.trans (Ext.trans hy14 e.h) (vM.below hbwS8 (B:=w.heap.size) ((Ext.trans hy14 e.h)).size (fun y hm=>by simp at hm;omega));have kf8_0:=ZA nrgf8 0 (v:=.slice A5_0_0 r0.agents.length c5_0_0) rfl;clear fgf8 rowgf8 nrgf8 cgf8_0;refine Zaj 13 rfl (by kernel_rfl) ?_;go_big_quiet_step (fail);refine wpQuiet_nil ?_;refine Zaj 14 rfl (by kernel_rfl) ?_;go_big_quiet_step (fail);refine wpQuiet_nil ?_;refine Zaj 15 rfl (by kernel_rfl) ?_;go_big_quiet_step (fail);refine wpQuiet_nil ?_;refine ZaX (by kernel_rfl) (fun e he=> ?_);clear he
 go_wp2_with fail
 refine(vC a0 _ (ta0.below e.h) SM0.out).mono ?_;rintro _ W6 ⟨B6,D6,q6,rfl,z6,T6,O6⟩;have lo6:∀b∈q6,e.to.heap.size≤b∧b<W6.heap.size:=fun b hb=>⟨(O6.2 b hb).1,T6.lt b hb⟩
 have sz6:=e.h.size;have sw6:=(Ext.trans hy_wS8 e.h).size;have hq15:=Ext.trans e.h z6;have hs15:=hq15.size
 replace k1_0:=k1_0.ext hq15
 replace kf8_0:=kf8_0.ext hq15
 replace ta0:=ta0.below hq15
 replace ta1:=ta1.below hq15
 replace T5_0:=T5_0.below hq15
 replace T5_1:=T5_1.below hq15
 replace O5_0:=O5_0.below hq15
 replace O5_1:=O5_1.below hq15
 have hy16:=Ext.trans hy_wS8 hq15;obtain⟨e,he⟩:∃e:aQ W6,W6=e.to:=⟨⟨W6,Below.refl _ _⟩,rfl⟩;rw[he];clear he
 go_wp2_with fail
 refine(uz a1 _ (ta1.below e.h) SM1.out).mono ?_;rintro _ W7 ⟨_,q7,rfl,z7,T7,O7⟩;obtain⟨_,_,_,rfl, -⟩:=aO.us T7;have lo7:∀b∈q7,e.to.heap.size≤b∧b<W7.heap.size:=fun b hb=>⟨(O7.2 b hb).1,T7.lt b hb⟩
 have sz7:=e.h.size;have sw7:=(Ext.trans hy16 e.h).size;have hq17:=Ext.trans e.h z7;have hs17:=hq17.size
 replace k1_0:=k1_0.ext hq17
 replace kf8_0:=kf8_0.ext hq17
 replace ta0:=ta0.below hq17
 replace ta1:=ta1.below hq17
 replace T5_0:=T5_0.below hq17
 replace T5_1:=T5_1.below hq17
 replace T6:=T6.below hq17
 replace O5_0:=O5_0.below hq17
 replace O5_1:=O5_1.below hq17
 replace O6:=O6.below hq17
 have hy18:=Ext.trans hy16 hq17;obtain⟨e,he⟩:∃e:aQ W7,W7=e.to:=⟨⟨W7,Below.refl _ _⟩,rfl⟩
 go_upto_region 11 with(fail)
 clear he;generalize hggx1:e.to.heap.size=gx1;refine gW e hggx1 (fun w19 e hx19 hgegx1 hltgx1 cgx1=> ?_);clear hggx1
 replace k1_0:=k1_0.ext hx19
 replace kf8_0:=kf8_0.ext hx19
 replace ta0:=ta0.below hx19
 replace ta1:=ta1.below hx19
 replace T5_0:=T5_0.below hx19
 replace T5_1:=T5_1.below hx19
 replace T6:=T6.below hx19
 replace T7:=T7.below hx19
 replace O5_0:=O5_0.below hx19
 replace O5_1:=O5_1.below hx19
 replace O6:=O6.below hx19
 replace O7:=O7.below hx19
 have hy19:=Ext.trans hy18 hx19;have hs_gx1:=hx19.size;have kx1_0:=cgx1.always hltgx1 0 _ rfl;simp only[Nat.zero_add]at kx1_0;clear cgx1
 go_wp2_with fail
 refine(Zac a0 a1 a2 r0 r1 r2 r3 hR _ (T6.below e.h) (T7.below e.h)).mono ?_;rintro _ W8 ⟨_,q8_0,B8_1,D8_1,q8_1,rfl,z8,T8_0,T8_1,O8⟩;obtain⟨A8_0_0,c8_0_0,_,rfl, -⟩:=aO.us T8_0;obtain⟨O8_0,O8_1,dj8_1⟩:=Own.parts O8;have lo8_0:∀b∈q8_0,e.to.heap.size≤b∧b<W8.heap.size:=fun b hb=>⟨(O8_0.2 b hb).1,T8_0.lt b hb⟩
 have lo8_1:∀b∈q8_1,e.to.heap.size≤b∧b<W8.heap.size:=fun b hb=>⟨(O8_1.2 b hb).1,T8_1.lt b hb⟩
 have sz8:=e.h.size;have sw8:=(Ext.trans hy19 e.h).size;have ap8_0_1:∀y∈q8_0,y∉q8_1:=fun y hm=>dj8_1 y hm
 have hq20:=Ext.trans e.h z8;have hs20:=hq20.size
 replace k1_0:=k1_0.ext hq20
 replace kf8_0:=kf8_0.ext hq20
 replace kx1_0:=kx1_0.ext hq20
 replace ta0:=ta0.below hq20
 replace ta1:=ta1.below hq20
 replace T5_0:=T5_0.below hq20
 replace T5_1:=T5_1.below hq20
 replace T6:=T6.below hq20
 replace T7:=T7.below hq20
 replace O5_0:=O5_0.below hq20
 replace O5_1:=O5_1.below hq20
 replace O6:=O6.below hq20
 replace O7:=O7.below hq20
 have hy21:=Ext.trans hy19 hq20;obtain⟨e,he⟩:∃e:aQ W8,W8=e.to:=⟨⟨W8,Below.refl _ _⟩,rfl⟩;rw[he];clear he
 go_upto_region 12 with(fail)
 generalize hggbg0:e.to.heap.size=gbg0;refine gW e hggbg0 (fun w22 e hx22 hgegbg0 hltgbg0 cgbg0=> ?_);clear hggbg0
 replace k1_0:=k1_0.ext hx22
 replace kf8_0:=kf8_0.ext hx22
 replace kx1_0:=kx1_0.ext hx22
 replace ta0:=ta0.below hx22
 replace ta1:=ta1.below hx22
 replace T5_0:=T5_0.below hx22
 replace T5_1:=T5_1.below hx22
 replace T6:=T6.below hx22
 replace T7:=T7.below hx22
 replace T8_0:=T8_0.below hx22
 replace T8_1:=T8_1.below hx22
 replace O5_0:=O5_0.below hx22
 replace O5_1:=O5_1.below hx22
 replace O6:=O6.below hx22
 replace O7:=O7.below hx22
 replace O8_0:=O8_0.below hx22
 replace O8_1:=O8_1.below hx22
 have hy22:=Ext.trans hy21 hx22;have hs_gbg0:=hx22.size;have kbg0_0:=cgbg0.always hltgbg0 0 _ rfl;simp only[Nat.zero_add]at kbg0_0;clear cgbg0;have ee_r0:vF r0 r0=true:=ql r0;have ee_r1:vF r1 r1=true:=ql r1
 go_wp2_with fail
 refine(zZ r0 r0 _ (T8_0.below e.h) (T5_0.below e.h)).mono ?_;rintro _ W9 ⟨rfl,z9⟩;have hq23:=Ext.trans e.h z9;have hs23:=hq23.size
 replace k1_0:=k1_0.ext hq23
 replace kf8_0:=kf8_0.ext hq23
 replace kx1_0:=kx1_0.ext hq23
 replace kbg0_0:=kbg0_0.ext hq23
 replace ta0:=ta0.below hq23
 replace ta1:=ta1.below hq23
 replace T5_0:=T5_0.below hq23
 replace T5_1:=T5_1.below hq23
 replace T6:=T6.below hq23
 replace T7:=T7.below hq23
 replace T8_0:=T8_0.below hq23
 replace T8_1:=T8_1.below hq23
 replace O5_0:=O5_0.below hq23
 replace O5_1:=O5_1.below hq23
 replace O6:=O6.below hq23
 replace O7:=O7.below hq23
 replace O8_0:=O8_0.below hq23
 replace O8_1:=O8_1.below hq23
 have hy24:=Ext.trans hy22 hq23;obtain⟨e,he⟩:∃e:aQ W9,W9=e.to:=⟨⟨W9,Below.refl _ _⟩,rfl⟩;rw[he];clear he
 go_wp2_with fail
 refine(Gs r1 r1 _ (T8_1.below e.h) (T5_1.below e.h) (by have:=T8_1.sU;unfold maxLen;omega) (by have:=T8_1.sU;unfold maxLen;omega)).mono ?_;rintro _ W10 ⟨rfl,z10⟩;have hq25:=Ext.trans e.h z10;have hs25:=hq25.size
 replace k1_0:=k1_0.ext hq25
 replace kf8_0:=kf8_0.ext hq25
 replace kx1_0:=kx1_0.ext hq25
 replace kbg0_0:=kbg0_0.ext hq25
 replace ta0:=ta0.below hq25
 replace ta1:=ta1.below hq25
 replace T5_0:=T5_0.below hq25
 replace T5_1:=T5_1.below hq25
 replace T6:=T6.below hq25
 replace T7:=T7.below hq25
 replace T8_0:=T8_0.below hq25
 replace T8_1:=T8_1.below hq25
 replace O5_0:=O5_0.below hq25
 replace O5_1:=O5_1.below hq25
 replace O6:=O6.below hq25
 replace O7:=O7.below hq25
 replace O8_0:=O8_0.below hq25
 replace O8_1:=O8_1.below hq25
 have hy26:=Ext.trans hy24 hq25;obtain⟨e,he⟩:∃e:aQ W10,W10=e.to:=⟨⟨W10,Below.refl _ _⟩,rfl⟩;rw[he];clear he;have ee_a0:vF a0 a0=true:=ql a0
 go_wp2_with fail
 refine(vC a0 _ (ta0.below e.h) SM0.out).mono ?_;rintro _ W11 ⟨B11,D11,q11,rfl,z11,T11,O11⟩;have lo11:∀b∈q11,e.to.heap.size≤b∧b<W11.heap.size:=fun b hb=>⟨(O11.2 b hb).1,T11.lt b hb⟩
 have sz11:=e.h.size;have sw11:=(Ext.trans hy26 e.h).size;have hq27:=Ext.trans e.h z11;have hs27:=hq27.size
 replace k1_0:=k1_0.ext hq27
 replace kf8_0:=kf8_0.ext hq27
 replace kx1_0:=kx1_0.ext hq27
 replace kbg0_0:=kbg0_0.ext hq27
 replace ta0:=ta0.below hq27
 replace ta1:=ta1.below hq27
 replace T5_0:=T5_0.below hq27
 replace T5_1:=T5_1.below hq27
 replace T6:=T6.below hq27
 replace T7:=T7.below hq27
 replace T8_0:=T8_0.below hq27
 replace T8_1:=T8_1.below hq27
 replace O5_0:=O5_0.below hq27
 replace O5_1:=O5_1.below hq27
 replace O6:=O6.below hq27
 replace O7:=O7.below hq27
 replace O8_0:=O8_0.below hq27
 replace O8_1:=O8_1.below hq27
 have hy28:=Ext.trans hy26 hq27;obtain⟨e,he⟩:∃e:aQ W11,W11=e.to:=⟨⟨W11,Below.refl _ _⟩,rfl⟩;rw[he];clear he
 go_wp2_with fail
 refine(KD a0 a0 _ (T6.below e.h) (T11.below e.h) (by have:=T6.sU;unfold maxLen;omega) (by have:=T6.sU;unfold maxLen;omega)).mono ?_;rintro _ W12 ⟨rfl,z12⟩;have hq29:=Ext.trans e.h z12;have hs29:=hq29.size
 replace k1_0:=k1_0.ext hq29
 replace kf8_0:=kf8_0.ext hq29
 replace kx1_0:=kx1_0.ext hq29
 replace kbg0_0:=kbg0_0.ext hq29
 replace ta0:=ta0.below hq29
 replace ta1:=ta1.below hq29
 replace T5_0:=T5_0.below hq29
 replace T5_1:=T5_1.below hq29
 replace T6:=T6.below hq29
 replace T7:=T7.below hq29
 replace T8_0:=T8_0.below hq29
 replace T8_1:=T8_1.below hq29
 replace T11:=T11.below hq29
 replace O5_0:=O5_0.below hq29
 replace O5_1:=O5_1.below hq29
 replace O6:=O6.below hq29
 replace O7:=O7.below hq29
 replace O8_0:=O8_0.below hq29
 replace O8_1:=O8_1.below hq29
 replace O11:=O11.below hq29
 have hy30:=Ext.trans hy28 hq29;obtain⟨e,he⟩:∃e:aQ W12,W12=e.to:=⟨⟨W12,Below.refl _ _⟩,rfl⟩;rw[he];clear he;have ee_a1:vF a1 a1=true:=ql a1
 go_wp2_with fail
 refine rQ _ (by kernel_rfl) 5 (by kernel_rfl) ?_;refine eH 0 rfl (by kernel_rfl) ?_;go_big_quiet_step (fail);refine wpQuiet_nil ?_;refine eH 1 rfl (by kernel_rfl) ?_;go_big_quiet_step (fail);refine wpQuiet_nil ?_;refine lT 2 rfl (by kernel_rfl) (fun e=> ?_)
 go_wp2_with fail
 refine(uz a1 _ (ta1.below e.h) SM1.out).mono ?_;rintro _ W13 ⟨_,q13,rfl,z13,T13,O13⟩;obtain⟨_,_,_,rfl, -⟩:=aO.us T13;have lo13:∀b∈q13,e.to.heap.size≤b∧b<W13.heap.size:=fun b hb=>⟨(O13.2 b hb).1,T13.lt b hb⟩
 have sz13:=e.h.size;have sw13:=(Ext.trans hy30 e.h).size
 go_wp2_with fail
 refine aI z13 ?_;have hq31:=Ext.trans e.h z13;have hs31:=hq31.size
 replace k1_0:=k1_0.ext hq31
 replace kf8_0:=kf8_0.ext hq31
 replace kx1_0:=kx1_0.ext hq31
 replace kbg0_0:=kbg0_0.ext hq31
 replace ta0:=ta0.below hq31
 replace ta1:=ta1.below hq31
 replace T5_0:=T5_0.below hq31
 replace T5_1:=T5_1.below hq31
 replace T6:=T6.below hq31
 replace T7:=T7.below hq31
 replace T8_0:=T8_0.below hq31
 replace T8_1:=T8_1.below hq31
 replace O5_0:=O5_0.below hq31
 replace O5_1:=O5_1.below hq31
 replace O6:=O6.below hq31
 replace O7:=O7.below hq31
 replace O8_0:=O8_0.below hq31
 replace O8_1:=O8_1.below hq31
 have hy32:=Ext.trans hy30 hq31;refine lT 3 rfl (by kernel_rfl) (fun e=> ?_)
 go_wp2_with fail
 refine(zZ a1 a1 _ (T7.below e.h) (T13.below e.h)).mono ?_;rintro _ W14 ⟨rfl,z14⟩
 go_wp2_with fail
 refine aI z14 ?_;have hq33:=Ext.trans e.h z14;have hs33:=hq33.size
 replace k1_0:=k1_0.ext hq33
 replace kf8_0:=kf8_0.ext hq33
 replace kx1_0:=kx1_0.ext hq33
 replace kbg0_0:=kbg0_0.ext hq33
 replace ta0:=ta0.below hq33
 replace ta1:=ta1.below hq33
 replace T5_0:=T5_0.below hq33
 replace T5_1:=T5_1.below hq33
 replace T6:=T6.below hq33
 replace T7:=T7.below hq33
 replace T8_0:=T8_0.below hq33
 replace T8_1:=T8_1.below hq33
 replace T13:=T13.below hq33
 replace O5_0:=O5_0.below hq33
 replace O5_1:=O5_1.below hq33
 replace O6:=O6.below hq33
 replace O7:=O7.below hq33
 replace O8_0:=O8_0.below hq33
 replace O8_1:=O8_1.below hq33
 replace O13:=O13.below hq33
 have hy34:=Ext.trans hy32 hq33;refine eH 4 rfl (by kernel_rfl) ?_;go_big_quiet_step (fail);refine wpQuiet_nil ?_;refine Ac (by kernel_rfl) (fun e=> ?_)
 go_wp2_with fail
 have cb0:cN (a0.flatMap aO.enc)≤33554432:=by have h1:=dJ (f:=aO.enc) (g:=aO.wt) aO.Cg a0;have h2:=HL0.out;omega
 have cb1:a1.cnt≤33554432:=by have h1:=aO.Kz a1;have h2:=HL1.out;omega
 obtain⟨rb0,rb1⟩:r0.cnt≤1099511627776∧cN (r1.flatMap bN)≤1099511627776:=Zah a0 a1 a2 r0 r1 r2 r3 hR.out SM0.out SM1.out;refine(GZ a0 1 _ (T6.below e.h) (O6.below e.h) (by have:=T6.sU;unfold maxLen;omega) (by omega) (by omega)).mono ?_;rintro _ W15 ⟨kx0,rfl,hkx0,M15,f15,V15⟩;have pkx0:0≤kx0:=by have:=hkx0.out;omega
 have hsW15:=f15.size;have hszW15:=e.h.size
 replace k1_0:=k1_0.zA e f15 (by omega) (fun hm=>by have:=lo6 _ hm;omega)
 replace kf8_0:=kf8_0.zA e f15 (by omega) (fun hm=>by have:=lo6 _ hm;omega)
 replace kx1_0:=kx1_0.zA e f15 (by omega) (fun hm=>by have:=lo6 _ hm;omega)
 replace kbg0_0:=kbg0_0.zA e f15 (by omega) (fun hm=>by have:=lo6 _ hm;omega)
 replace ta0:=T1.zA (ta0.below e.h) f15 (fun y hy hm=>by have h1:=loa0 y hy;have h2:=lo6 y hm;omega)
 replace ta1:=TN.zA (ta1.below e.h) f15 (fun y hy hm=>by have h1:=loa1 y hy;have h2:=lo6 y hm;omega)
 replace O5_0:=(O5_0.below e.h).zA f15
 replace T5_0:=TN.zA (T5_0.below e.h) f15 (fun y hy hm=>by have h1:=lo5_0 y hy;have h2:=lo6 y hm;omega)
 replace O5_1:=(O5_1.below e.h).zA f15
 replace T5_1:=T1.zA (T5_1.below e.h) f15 (fun y hy hm=>by have h1:=lo5_1 y hy;have h2:=lo6 y hm;omega)
 replace O7:=(O7.below e.h).zA f15
 replace T7:=TN.zA (T7.below e.h) f15 (fun y hy hm=>by have h1:=lo7 y hy;have h2:=lo6 y hm;omega)
 replace O8_0:=(O8_0.below e.h).zA f15
 replace T8_0:=TN.zA (T8_0.below e.h) f15 (fun y hy hm=>by have h1:=lo8_0 y hy;have h2:=lo6 y hm;omega)
 replace O8_1:=(O8_1.below e.h).zA f15
 replace T8_1:=T1.zA (T8_1.below e.h) f15 (fun y hy hm=>by have h1:=lo8_1 y hy;have h2:=lo6 y hm;omega)
 have hB15:Ext w W15:=Below.trans (Ext.trans hy34 e.h) (ng.below f15 (Ext.trans hy34 e.h).size (fun y hm=>by have:=lo6 y hm;have:=(Ext.trans hy34 e.h).size;omega));obtain⟨e,he⟩:∃e:aQ W15,W15=e.to:=⟨⟨W15,Below.refl _ _⟩,rfl⟩;rw[he];clear he;have bdkx0:kx0≤36028797018963968:=by have:=hkx0.out;omega
 go_wp2_with fail
 refine(Jo a1 kx0 _ (T7.below e.h) (O7.below e.h) (by omega) (by omega)).mono ?_;rintro _ W16 ⟨kx1,rfl,hkx1,M16,f16,V16⟩;have pkx1:0≤kx1:=by have:=hkx1.out;omega
 have hsW16:=f16.size;have hszW16:=e.h.size
 replace k1_0:=k1_0.zA e f16 (by omega) (fun hm=>by have:=lo7 _ hm;omega)
 replace kf8_0:=kf8_0.zA e f16 (by omega) (fun hm=>by have:=lo7 _ hm;omega)
 replace kx1_0:=kx1_0.zA e f16 (by omega) (fun hm=>by have:=lo7 _ hm;omega)
 replace kbg0_0:=kbg0_0.zA e f16 (by omega) (fun hm=>by have:=lo7 _ hm;omega)
 replace ta0:=T1.zA (ta0.below e.h) f16 (fun y hy hm=>by have h1:=loa0 y hy;have h2:=lo7 y hm;omega)
 replace ta1:=TN.zA (ta1.below e.h) f16 (fun y hy hm=>by have h1:=loa1 y hy;have h2:=lo7 y hm;omega)
 replace O5_0:=(O5_0.below e.h).zA f16
 replace T5_0:=TN.zA (T5_0.below e.h) f16 (fun y hy hm=>by have h1:=lo5_0 y hy;have h2:=lo7 y hm;omega)
 replace O5_1:=(O5_1.below e.h).zA f16
 replace T5_1:=T1.zA (T5_1.below e.h) f16 (fun y hy hm=>by have h1:=lo5_1 y hy;have h2:=lo7 y hm;omega)
 replace O8_0:=(O8_0.below e.h).zA f16
 replace T8_0:=TN.zA (T8_0.below e.h) f16 (fun y hy hm=>by have h1:=lo8_0 y hy;have h2:=lo7 y hm;omega)
 replace O8_1:=(O8_1.below e.h).zA f16
 replace T8_1:=T1.zA (T8_1.below e.h) f16 (fun y hy hm=>by have h1:=lo8_1 y hy;have h2:=lo7 y hm;omega)
 have hB16:Ext w W16:=Below.trans (Ext.trans hB15 e.h) (ng.below f16 (Ext.trans hB15 e.h).size (fun y hm=>by have:=lo7 y hm;have:=(Ext.trans hB15 e.h).size;omega));obtain⟨e,he⟩:∃e:aQ W16,W16=e.to:=⟨⟨W16,Below.refl _ _⟩,rfl⟩;rw[he];clear he;have bdkx1:kx1≤72057594037927936:=by have:=hkx1.out;omega
 go_wp2_with fail
 refine(zZ r0 r0 _ (T8_0.below e.h) (T5_0.below e.h)).mono ?_;rintro _ W17 ⟨rfl,z17⟩;have hq35:=Ext.trans e.h z17;have hs35:=hq35.size
 replace k1_0:=k1_0.ext hq35
 replace kf8_0:=kf8_0.ext hq35
 replace kx1_0:=kx1_0.ext hq35
 replace kbg0_0:=kbg0_0.ext hq35
 replace ta0:=ta0.below hq35
 replace ta1:=ta1.below hq35
 replace T5_0:=T5_0.below hq35
 replace T5_1:=T5_1.below hq35
 replace T8_0:=T8_0.below hq35
 replace T8_1:=T8_1.below hq35
 replace O5_0:=O5_0.below hq35
 replace O5_1:=O5_1.below hq35
 replace O8_0:=O8_0.below hq35
 replace O8_1:=O8_1.below hq35
 have hy36:=Ext.trans hB16 hq35;obtain⟨e,he⟩:∃e:aQ W17,W17=e.to:=⟨⟨W17,Below.refl _ _⟩,rfl⟩;rw[he];clear he
 go_wp2_with fail
 refine(Gs r1 r1 _ (T8_1.below e.h) (T5_1.below e.h) (by have:=T8_1.sU;unfold maxLen;omega) (by have:=T8_1.sU;unfold maxLen;omega)).mono ?_;rintro _ W18 ⟨rfl,z18⟩;have hq37:=Ext.trans e.h z18;have hs37:=hq37.size
 replace k1_0:=k1_0.ext hq37
 replace kf8_0:=kf8_0.ext hq37
 replace kx1_0:=kx1_0.ext hq37
 replace kbg0_0:=kbg0_0.ext hq37
 replace ta0:=ta0.below hq37
 replace ta1:=ta1.below hq37
 replace T5_0:=T5_0.below hq37
 replace T5_1:=T5_1.below hq37
 replace T8_0:=T8_0.below hq37
 replace T8_1:=T8_1.below hq37
 replace O5_0:=O5_0.below hq37
 replace O5_1:=O5_1.below hq37
 replace O8_0:=O8_0.below hq37
 replace O8_1:=O8_1.below hq37
 have hy38:=Ext.trans hy36 hq37;obtain⟨e,he⟩:∃e:aQ W18,W18=e.to:=⟨⟨W18,Below.refl _ _⟩,rfl⟩;rw[he];clear he
 go_wp2_with fail
 refine(Jo r0 1 _ (T8_0.below e.h) (O8_0.below e.h) (by omega) (by omega)).mono ?_;rintro _ W19 ⟨mg0,rfl,hmg0,M19,f19,V19⟩;have pmg0:0≤mg0:=by have:=hmg0.out;omega
 have hsW19:=f19.size;have hszW19:=e.h.size
 replace k1_0:=k1_0.zA e f19 (by omega) (fun hm=>by have:=lo8_0 _ hm;omega)
 replace kf8_0:=kf8_0.zA e f19 (by omega) (fun hm=>by have:=lo8_0 _ hm;omega)
 replace kx1_0:=kx1_0.zA e f19 (by omega) (fun hm=>by have:=lo8_0 _ hm;omega)
 replace kbg0_0:=kbg0_0.zA e f19 (by omega) (fun hm=>by have:=lo8_0 _ hm;omega)
 replace ta0:=T1.zA (ta0.below e.h) f19 (fun y hy hm=>by have h1:=loa0 y hy;have h2:=lo8_0 y hm;omega)
 replace ta1:=TN.zA (ta1.below e.h) f19 (fun y hy hm=>by have h1:=loa1 y hy;have h2:=lo8_0 y hm;omega)
 replace O5_0:=(O5_0.below e.h).zA f19
 replace T5_0:=TN.zA (T5_0.below e.h) f19 (fun y hy hm=>by have h1:=lo5_0 y hy;have h2:=lo8_0 y hm;omega)
 replace O5_1:=(O5_1.below e.h).zA f19
 replace T5_1:=T1.zA (T5_1.below e.h) f19 (fun y hy hm=>by have h1:=lo5_1 y hy;have h2:=lo8_0 y hm;omega)
 replace O8_1:=(O8_1.below e.h).zA f19
 replace T8_1:=T1.zA (T8_1.below e.h) f19 (fun y hy hm=>ap8_0_1 y hm hy)
 have hB19:Ext w W19:=Below.trans (Ext.trans hy38 e.h) (ng.below f19 (Ext.trans hy38 e.h).size (fun y hm=>by have:=lo8_0 y hm;have:=(Ext.trans hy38 e.h).size;omega));obtain⟨e,he⟩:∃e:aQ W19,W19=e.to:=⟨⟨W19,Below.refl _ _⟩,rfl⟩;rw[he];clear he;have bdmg0:mg0≤108086391056891904:=by have:=hmg0.out;omega
 have O8_0:=V19
 go_wp2_with fail
 refine(CU r1 mg0 _ (T8_1.below e.h) (O8_1.below e.h) (by have:=T8_1.sU;unfold maxLen;omega) (by omega) (by omega)).mono ?_;rintro _ W20 ⟨mg1,rfl,hmg1,M20,f20,V20⟩;have pmg1:0≤mg1:=by have:=hmg1.out;omega
 have hsW20:=f20.size;have hszW20:=e.h.size
 replace k1_0:=k1_0.zA e f20 (by omega) (fun hm=>by have:=lo8_1 _ hm;omega)
 replace kf8_0:=kf8_0.zA e f20 (by omega) (fun hm=>by have:=lo8_1 _ hm;omega)
 replace kx1_0:=kx1_0.zA e f20 (by omega) (fun hm=>by have:=lo8_1 _ hm;omega)
 replace kbg0_0:=kbg0_0.zA e f20 (by omega) (fun hm=>by have:=lo8_1 _ hm;omega)
 replace ta0:=T1.zA (ta0.below e.h) f20 (fun y hy hm=>by have h1:=loa0 y hy;have h2:=lo8_1 y hm;omega)
 replace ta1:=TN.zA (ta1.below e.h) f20 (fun y hy hm=>by have h1:=loa1 y hy;have h2:=lo8_1 y hm;omega)
 replace O5_0:=(O5_0.below e.h).zA f20
 replace T5_0:=TN.zA (T5_0.below e.h) f20 (fun y hy hm=>by have h1:=lo5_0 y hy;have h2:=lo8_1 y hm;omega)
 replace O5_1:=(O5_1.below e.h).zA f20
 replace T5_1:=T1.zA (T5_1.below e.h) f20 (fun y hy hm=>by have h1:=lo5_1 y hy;have h2:=lo8_1 y hm;omega)
 replace O8_0:=(O8_0.below e.h).zA f20
 replace M19:=TN.zA (M19.below e.h) f20 ap8_0_1
 have hB20:Ext w W20:=Below.trans (Ext.trans hB19 e.h) (ng.below f20 (Ext.trans hB19 e.h).size (fun y hm=>by have:=lo8_1 y hm;have:=(Ext.trans hB19 e.h).size;omega));obtain⟨e,he⟩:∃e:aQ W20,W20=e.to:=⟨⟨W20,Below.refl _ _⟩,rfl⟩;rw[he];clear he;have bdmg1:mg1≤144115188075855872:=by have:=hmg1.out;omega
 have O8_1:=V20;have CH0:Hid (QC Tryz.prog W20 _ _ _):=fun W hW=>UL r0 1 mg0 W (TN.below M19 hW) (by omega) (by omega) hmg0
 go_wp2_with (first|(go_at_call 17;with_reducible refine(CH0.out.at_ _).mono ?_;rintro _ _ ⟨rfl,e,rfl⟩))
 clear CH0;have CH1:Hid (QC Tryz.prog W20 _ _ _):=fun W hW=>Cw r1 mg0 mg1 r1.length W (M20.below hW) iL (by omega) (by omega) hmg1
 go_wp2_with (first|(go_at_call 18;with_reducible refine(CH1.out.at_ _).mono ?_;rintro _ _ ⟨rfl,e,rfl⟩))
 clear CH1
 go_wp2_with fail
 refine Zam e (W20.heap.size) (by kernel_rfl) 16 (by kernel_rfl) (fun wR39 hxwR39=> ?_);have hs_wR39:=hxwR39.size
 replace k1_0:=k1_0.ext hxwR39
 replace kf8_0:=kf8_0.ext hxwR39
 replace kx1_0:=kx1_0.ext hxwR39
 replace kbg0_0:=kbg0_0.ext hxwR39
 replace ta0:=ta0.below hxwR39
 replace ta1:=ta1.below hxwR39
 replace T5_0:=T5_0.below hxwR39
 replace T5_1:=T5_1.below hxwR39
 replace M19:=M19.below hxwR39
 replace M20:=M20.below hxwR39
 replace O5_0:=O5_0.below hxwR39
 replace O5_1:=O5_1.below hxwR39
 replace O8_0:=O8_0.below hxwR39
 replace O8_1:=O8_1.below hxwR39
 have hy40:=Ext.trans hB20 hxwR39;have B_k1_0:=k1_0.b (N:=W20.heap.size) (by omega);have B_kf8_0:=kf8_0.b (N:=W20.heap.size) (by omega);have B_kx1_0:=kx1_0.b (N:=W20.heap.size) (by omega);have B_kbg0_0:=kbg0_0.b (N:=W20.heap.size) (by omega);refine ZaC ⟨11,21,fun g=>.pointer (some ⟨g,0,none⟩),.cells #[.slice none 0 0] 30⟩ ⟨⟨_,rfl,rfl⟩,fun K a w h=>WJ rfl (by go_wp2_with fail;exact h)⟩ (fun hfl=> ?_);refine Z7 0 rfl (by omega) hfl (by kernel_rfl) ?_;go_big_quiet_step (fail);refine wpQuiet_nil ?_;refine Z7 2 rfl (by omega) hfl (by kernel_rfl) ?_;go_big_quiet_step (fail);refine wpQuiet_nil ?_
 refine Z7 4 rfl (by omega) hfl (by kernel_rfl) ?_;go_big_quiet_step (fail);refine wpQuiet_nil ?_;refine Zag 1 rfl (by omega) (fun x hx=>by simp at hx) hfl (by kernel_rfl) (fun e=> ?_)
 go_wp2_with fail
 refine(vC a0 _ (ta0.below e.h) SM0.out).mono ?_;rintro _ W21 ⟨B21,D21,q21,rfl,z21,T21,O21⟩;have lo21:∀b∈q21,e.to.heap.size≤b∧b<W21.heap.size:=fun b hb=>⟨(O21.2 b hb).1,T21.lt b hb⟩
 have sz21:=e.h.size;have sw21:=(Ext.trans hy40 e.h).size
 go_wp2_with fail
 refine aI z21 ⟨q21,lo21,?_⟩;have hq41:=Ext.trans e.h z21;have hs41:=hq41.size
 replace k1_0:=k1_0.ext hq41
 replace kf8_0:=kf8_0.ext hq41
 replace kx1_0:=kx1_0.ext hq41
 replace kbg0_0:=kbg0_0.ext hq41
 replace ta0:=ta0.below hq41
 replace ta1:=ta1.below hq41
 replace T5_0:=T5_0.below hq41
 replace T5_1:=T5_1.below hq41
 replace M19:=M19.below hq41
 replace M20:=M20.below hq41
 replace O5_0:=O5_0.below hq41
 replace O5_1:=O5_1.below hq41
 replace O8_0:=O8_0.below hq41
 replace O8_1:=O8_1.below hq41
 have hy42:=Ext.trans hy40 hq41
 replace B_k1_0:=B_k1_0.go (hq41.mono (by omega))
 replace B_kf8_0:=B_kf8_0.go (hq41.mono (by omega))
 replace B_kx1_0:=B_kx1_0.go (hq41.mono (by omega))
 replace B_kbg0_0:=B_kbg0_0.go (hq41.mono (by omega))
 refine Zag 3 rfl (by omega) (fun x hx=>by simp only[qT,List.mem_cons,List.not_mem_nil,or_false,false_or,qS,or_assoc]at hx;have h1:=lo21 x hx;omega) hfl (by kernel_rfl) (fun e=> ?_)
 go_wp2_with fail
 refine(uz a1 _ (ta1.below e.h) SM1.out).mono ?_;rintro _ W22 ⟨_,q22,rfl,z22,T22,O22⟩;obtain⟨_,_,_,rfl, -⟩:=aO.us T22;have lo22:∀b∈q22,e.to.heap.size≤b∧b<W22.heap.size:=fun b hb=>⟨(O22.2 b hb).1,T22.lt b hb⟩
 have sz22:=e.h.size;have sw22:=(Ext.trans hy42 e.h).size
 go_wp2_with fail
 refine aI z22 ⟨q22,lo22,?_⟩;have hq43:=Ext.trans e.h z22;have hs43:=hq43.size
 replace k1_0:=k1_0.ext hq43
 replace kf8_0:=kf8_0.ext hq43
 replace kx1_0:=kx1_0.ext hq43
 replace kbg0_0:=kbg0_0.ext hq43
 replace ta0:=ta0.below hq43
 replace ta1:=ta1.below hq43
 replace T5_0:=T5_0.below hq43
 replace T5_1:=T5_1.below hq43
 replace M19:=M19.below hq43
 replace M20:=M20.below hq43
 replace T21:=T21.below hq43
 replace O5_0:=O5_0.below hq43
 replace O5_1:=O5_1.below hq43
 replace O8_0:=O8_0.below hq43
 replace O8_1:=O8_1.below hq43
 replace O21:=O21.below hq43
 have hy44:=Ext.trans hy42 hq43
 replace B_k1_0:=B_k1_0.go (hq43.mono (by omega))
 replace B_kf8_0:=B_kf8_0.go (hq43.mono (by omega))
 replace B_kx1_0:=B_kx1_0.go (hq43.mono (by omega))
 replace B_kbg0_0:=B_kbg0_0.go (hq43.mono (by omega))
 refine Zag 5 rfl (by omega) (fun x hx=>by simp only[qT,List.mem_cons,List.not_mem_nil,or_false,false_or,qS,or_assoc]at hx;rcases hx with hx|hx<;>first|(have h1:=lo22 x hx;omega)|(have h1:=lo21 x hx;omega)) hfl (by kernel_rfl) (fun e=> ?_)
 go_wp2_with fail
 refine(Zac a0 a1 a2 r0 r1 r2 r3 hR _ (T21.below e.h) (T22.below e.h)).mono ?_;rintro _ W23 ⟨_,q23_0,B23_1,D23_1,q23_1,rfl,z23,T23_0,T23_1,O23⟩;obtain⟨A23_0_0,c23_0_0,_,rfl, -⟩:=aO.us T23_0;obtain⟨O23_0,O23_1,dj23_1⟩:=Own.parts O23;have lo23_0:∀b∈q23_0,e.to.heap.size≤b∧b<W23.heap.size:=fun b hb=>⟨(O23_0.2 b hb).1,T23_0.lt b hb⟩
 have lo23_1:∀b∈q23_1,e.to.heap.size≤b∧b<W23.heap.size:=fun b hb=>⟨(O23_1.2 b hb).1,T23_1.lt b hb⟩
 have sz23:=e.h.size;have sw23:=(Ext.trans hy44 e.h).size;have ap23_0_1:∀y∈q23_0,y∉q23_1:=fun y hm=>dj23_1 y hm
 go_wp2_with fail
 refine aI z23 ⟨q23_0++q23_1,fun b hb=>(qT.1 hb).elim (lo23_0 b) (lo23_1 b),?_⟩;have hq45:=Ext.trans e.h z23;have hs45:=hq45.size
 replace k1_0:=k1_0.ext hq45
 replace kf8_0:=kf8_0.ext hq45
 replace kx1_0:=kx1_0.ext hq45
 replace kbg0_0:=kbg0_0.ext hq45
 replace ta0:=ta0.below hq45
 replace ta1:=ta1.below hq45
 replace T5_0:=T5_0.below hq45
 replace T5_1:=T5_1.below hq45
 replace M19:=M19.below hq45
 replace M20:=M20.below hq45
 replace T21:=T21.below hq45
 replace T22:=T22.below hq45
 replace O5_0:=O5_0.below hq45
 replace O5_1:=O5_1.below hq45
 replace O8_0:=O8_0.below hq45
 replace O8_1:=O8_1.below hq45
 replace O21:=O21.below hq45
 replace O22:=O22.below hq45
 have hy46:=Ext.trans hy44 hq45
 replace B_k1_0:=B_k1_0.go (hq45.mono (by omega))
 replace B_kf8_0:=B_kf8_0.go (hq45.mono (by omega))
 replace B_kx1_0:=B_kx1_0.go (hq45.mono (by omega))
 replace B_kbg0_0:=B_kbg0_0.go (hq45.mono (by omega))
 refine Z7 6 rfl (by omega) hfl (by kernel_rfl) ?_;go_big_quiet_step (fail);refine wpQuiet_nil ?_;refine Z7 7 rfl (by omega) hfl (by kernel_rfl) ?_;go_big_quiet_step (fail);refine wpQuiet_nil ?_;refine Z7 8 rfl (by omega) hfl (by kernel_rfl) ?_;go_big_quiet_step (fail);refine wpQuiet_nil ?_;refine Z7 9 rfl (by omega) hfl (by kernel_rfl) ?_;go_big_quiet_step (fail);refine wpQuiet_nil ?_;refine Z7 10 rfl (by omega) hfl (by kernel_rfl) ?_;go_big_quiet_step (fail);refine wpQuiet_nil ?_;refine ZaM (by omega) (fun x hx=>by simp only[qT,List.mem_cons,List.not_mem_nil,or_false,false_or,qS,or_assoc]at hx;rcases hx with hx|hx|hx|hx<;>first|(have h1:=lo23_0 x hx;omega)|(have h1:=lo23_1 x hx;omega)|(have h1:=lo22 x hx;omega)|(have h1:=lo21 x hx;omega)) hfl (by kernel_rfl) (fun gf35 wL35 hxwL35 hgegf35 hnxgf35 rowgf35=> ?_)
 have hn_gf35_0:∀y∈q23_0,y≠gf35:=fun y hy h=>hnxgf35 (by simp[←h,hy])
 have hn_gf35_1:∀y∈q23_1,y≠gf35:=fun y hy h=>hnxgf35 (by simp[←h,hy])
 clear hnxgf35 hfl;have hltgf35:=ji rowgf35;have hs_wL35:=hxwL35.size;have fgf35:=Zz rowgf35;have cgf35_0:=ZA rowgf35 0 (v:=.slice none 0 0) rfl;clear B_k1_0 B_kf8_0 B_kx1_0 B_kbg0_0
 replace k1_0:=k1_0.ext hxwL35
 replace kf8_0:=kf8_0.ext hxwL35
 replace kx1_0:=kx1_0.ext hxwL35
 replace kbg0_0:=kbg0_0.ext hxwL35
 replace ta0:=ta0.below hxwL35
 replace ta1:=ta1.below hxwL35
 replace T5_0:=T5_0.below hxwL35
 replace T5_1:=T5_1.below hxwL35
 replace M19:=M19.below hxwL35
 replace M20:=M20.below hxwL35
 replace T23_0:=T23_0.below hxwL35
 replace T23_1:=T23_1.below hxwL35
 replace O5_0:=O5_0.below hxwL35
 replace O5_1:=O5_1.below hxwL35
 replace O8_0:=O8_0.below hxwL35
 replace O8_1:=O8_1.below hxwL35
 replace O23_0:=O23_0.below hxwL35
 replace O23_1:=O23_1.below hxwL35
 have hy47:=Ext.trans hy46 hxwL35;refine ZaZ 12 rfl (by kernel_rfl) (fun e he=> ?_);clear he
 go_wp2_with fail
 generalize hW:World.setCell e.to ⟨gf35,0,none⟩ (.slice A23_0_0 r0.agents.length c23_0_0)=wS35;have hbwS35:vM [gf35] e.to wS35:=by rw[←hW];exact ng.rZ ((ng.refl _ _).setCell (by simp) _ _)
 have nrgf35:wS35.heap[gf35]? =some (.cells #[.slice A23_0_0 r0.agents.length c23_0_0] 30 (0,0)):=by rw[←hW];exact(Rows.nO (RH rowgf35 e))
 clear hW;refine aI (vM.below hbwS35 (by have:=e.h.size;omega) (fun y hm=>by simp at hm;omega)) ?_;have hs_wS35:=Nat.le_trans e.h.size hbwS35.size
 replace k1_0:=k1_0.rZ e hbwS35 (by omega) (fun hm=>by simp at hm;omega)
 replace kf8_0:=kf8_0.rZ e hbwS35 (by omega) (fun hm=>by simp at hm;omega)
 replace kx1_0:=kx1_0.rZ e hbwS35 (by omega) (fun hm=>by simp at hm;omega)
 replace kbg0_0:=kbg0_0.rZ e hbwS35 (by omega) (fun hm=>by simp at hm;omega)
 replace ta0:=(ta0.below e.h).rZ hbwS35 (fun y hy hm=>by have h1:=loa0 y hy;simp at hm;omega)
 replace ta1:=(ta1.below e.h).rZ hbwS35 (fun y hy hm=>by have h1:=loa1 y hy;simp at hm;omega)
 replace T5_0:=(T5_0.below e.h).rZ hbwS35 (fun y hy hm=>by have h1:=lo5_0 y hy;simp at hm;omega)
 replace O5_0:=(O5_0.below e.h).rZ hbwS35 (fun y hy hm=>by have h1:=lo5_0 y hy;simp at hm;omega)
 replace T5_1:=(T5_1.below e.h).rZ hbwS35 (fun y hy hm=>by have h1:=lo5_1 y hy;simp at hm;omega)
 replace O5_1:=(O5_1.below e.h).rZ hbwS35 (fun y hy hm=>by have h1:=lo5_1 y hy;simp at hm;omega)
 replace M19:=(M19.below e.h).rZ hbwS35 (fun y hy hm=>by have h1:=lo8_0 y hy;simp at hm;omega)
 replace O8_0:=(O8_0.below e.h).rZ hbwS35 (fun y hy hm=>by have h1:=lo8_0 y hy;simp at hm;omega)
 replace M20:=(M20.below e.h).rZ hbwS35 (fun y hy hm=>by have h1:=lo8_1 y hy;simp at hm;omega)
 replace O8_1:=(O8_1.below e.h).rZ hbwS35 (fun y hy hm=>by have h1:=lo8_1 y hy;simp at hm;omega)
 replace T23_0:=(T23_0.below e.h).rZ hbwS35 (fun y hy hm=>by have h1:=lo23_0 y hy;have h2:=hn_gf35_0 y hy;simp at hm;omega)
 replace O23_0:=(O23_0.below e.h).rZ hbwS35 (fun y hy hm=>by have h1:=lo23_0 y hy;have h2:=hn_gf35_0 y hy;simp at hm;omega)
 replace T23_1:=(T23_1.below e.h).rZ hbwS35 (fun y hy hm=>by have h1:=lo23_1 y hy;have h2:=hn_gf35_1 y hy;simp at hm;omega)
 replace O23_1:=(O23_1.below e.h).rZ hbwS35 (fun y hy hm=>by have h1:=lo23_1 y hy;have h2:=hn_gf35_1 y hy;simp at hm;omega)
 have hy_wS35:Ext w wS35:=Below.trans (Ext.trans hy47 e.h) (vM.below hbwS35 (B:=w.heap.size) ((Ext.trans hy47 e.h)).size (fun y hm=>by simp at hm;omega));have kf35_0:=ZA nrgf35 0 (v:=.slice A23_0_0 r0.agents.length c23_0_0) rfl;clear fgf35 rowgf35 nrgf35 cgf35_0;refine Zaj 13 rfl (by kernel_rfl) ?_;go_big_quiet_step (fail);refine wpQuiet_nil ?_;refine Zaj 14 rfl (by kernel_rfl) ?_;go_big_quiet_step (fail);refine wpQuiet_nil ?_;refine Zaj 15 rfl (by kernel_rfl) ?_;go_big_quiet_step (fail);refine wpQuiet_nil ?_;refine ZaX (by kernel_rfl) (fun e he=> ?_)
 clear he
 go_wp2_with fail
 refine(zZ r0 r0 _ (T23_0.below e.h) (T5_0.below e.h)).mono ?_;rintro _ W24 ⟨rfl,z24⟩;have hq48:=Ext.trans e.h z24;have hs48:=hq48.size
 replace k1_0:=k1_0.ext hq48
 replace kf8_0:=kf8_0.ext hq48
 replace kx1_0:=kx1_0.ext hq48
 replace kbg0_0:=kbg0_0.ext hq48
 replace kf35_0:=kf35_0.ext hq48
 replace ta0:=ta0.below hq48
 replace ta1:=ta1.below hq48
 replace T5_0:=T5_0.below hq48
 replace T5_1:=T5_1.below hq48
 replace M19:=M19.below hq48
 replace M20:=M20.below hq48
 replace T23_0:=T23_0.below hq48
 replace T23_1:=T23_1.below hq48
 replace O5_0:=O5_0.below hq48
 replace O5_1:=O5_1.below hq48
 replace O8_0:=O8_0.below hq48
 replace O8_1:=O8_1.below hq48
 replace O23_0:=O23_0.below hq48
 replace O23_1:=O23_1.below hq48
 have hy49:=Ext.trans hy_wS35 hq48;obtain⟨e,he⟩:∃e:aQ W24,W24=e.to:=⟨⟨W24,Below.refl _ _⟩,rfl⟩;rw[he];clear he
 go_wp2_with fail
 refine(Gs r1 r1 _ (T23_1.below e.h) (T5_1.below e.h) (by have:=T23_1.sU;unfold maxLen;omega) (by have:=T23_1.sU;unfold maxLen;omega)).mono ?_;rintro _ W25 ⟨rfl,z25⟩;have hq50:=Ext.trans e.h z25;have hs50:=hq50.size
 replace k1_0:=k1_0.ext hq50
 replace kf8_0:=kf8_0.ext hq50
 replace kx1_0:=kx1_0.ext hq50
 replace kbg0_0:=kbg0_0.ext hq50
 replace kf35_0:=kf35_0.ext hq50
 replace ta0:=ta0.below hq50
 replace ta1:=ta1.below hq50
 replace T5_0:=T5_0.below hq50
 replace T5_1:=T5_1.below hq50
 replace M19:=M19.below hq50
 replace M20:=M20.below hq50
 replace T23_0:=T23_0.below hq50
 replace T23_1:=T23_1.below hq50
 replace O5_0:=O5_0.below hq50
 replace O5_1:=O5_1.below hq50
 replace O8_0:=O8_0.below hq50
 replace O8_1:=O8_1.below hq50
 replace O23_0:=O23_0.below hq50
 replace O23_1:=O23_1.below hq50
 have hy51:=Ext.trans hy49 hq50;obtain⟨e,he⟩:∃e:aQ W25,W25=e.to:=⟨⟨W25,Below.refl _ _⟩,rfl⟩;rw[he];clear he;have CH0:Hid (QC Tryz.prog W25 _ _ _):=fun W hW=>UL r0 1 mg0 W (TN.below M19 hW) (by omega) (by omega) hmg0
 go_wp2_with (first|(go_at_call 17;with_reducible refine(CH0.out.at_ _).mono ?_;rintro _ _ ⟨rfl,e,rfl⟩))
 clear CH0;have CH1:Hid (QC Tryz.prog W25 _ _ _):=fun W hW=>Cw r1 mg0 mg1 r1.length W (M20.below hW) iL (by omega) (by omega) hmg1
 go_wp2_with (first|(go_at_call 18;with_reducible refine(CH1.out.at_ _).mono ?_;rintro _ _ ⟨rfl,e,rfl⟩))
 clear CH1
 go_wp2_with fail
 go_ret;exact⟨rfl,aQ.old hy51 e⟩
end Go.Proofs.YtcjhkgfmklgikaaGreat
