
/- The law FnExactNewDebugger, walked. Printed by gen_law.py. -/
import Derived.Test.YtjpaeopdljfjpaaGreatShort
import Derived.Test.YtjpaeopdljfjpaaGreatProg
import Derived.Test.YtjpaeopdljfjpaaGreatNewDebuggerBoth
import Derived.Test.YtjpaeopdljfjpaaGreatKDbg
import Derived.Test.YtjpaeopdljfjpaaGreatZDbg
import Derived.Test.YtjpaeopdljfjpaaGreatSc
import Derived.Test.YtjpaeopdljfjpaaGreatFl
import Derived.BigGuardPart
import Derived.Outline
import Derived.Deep.CutBlock
set_option linter.unusedSimpArgs false
set_option linter.unusedVariables false
namespace Go.Proofs.YtjpaeopdljfjpaaGreat
open Go Go.RowKit Go.Proofs Go.Tr
set_option maxRecDepth 100000 in
set_option maxHeartbeats 16000000 in
theorem zC(a0:(List aG)){A0:Option Addr}{c0:Nat}{p0:List Nat}(a1:aG){p1:List Nat}{u1:List Value}(a2:(List Int)){A2:Option Addr}{c2:Nat}{p2:List Nat}(a3:Int)(w:World)(ta0:T1 w (.sl a0.length (a0.flatMap aG.enc)) p0 (.slice A0 a0.length c0))(ta1:TN w a1.enc p1 u1)(ta2:T1 w (.sl a2.length (a2.flatMap aT)) p2 (.slice A2 a2.length c2)):Calls Tryz.prog 3 #[.slice A0 a0.length c0,.agg u1.toArray,.slice A2 a2.length c2,.int .i64 a3] w fun e w'=>e=.returned (.bool (true))∧Ext w w':=by
 refine aM fun e=> ?_
 obtain⟨⟨r0,r1⟩,hR0⟩:∃R,R=iW a0 a1 a2 a3:=⟨_,rfl⟩;have hR:=Lib.hid hR0;clear hR0;obtain⟨_,_,_,rfl, -⟩:=aG.us (x:=a1) ta1;have loa1:∀b∈p1,0≤b∧b<w.heap.size:=fun b hb=>⟨Nat.zero_le _,ta1.lt b hb⟩
 have loa0:∀b∈p0,0≤b∧b<w.heap.size:=fun b hb=>⟨Nat.zero_le _,ta0.lt b hb⟩
 have loa2:∀b∈p2,0≤b∧b<w.heap.size:=fun b hb=>⟨Nat.zero_le _,ta2.lt b hb⟩
 have hna0:=ta0.nJ;have hna2:=ta2.nJ;have el2:=Lib.hid (rfl:a2.length=a2.length)
 go_enter Tryz.func3,Tryz.ntmps3
 go_upto_region 1 with(fail)
 generalize hgg1:e.to.heap.size=g1;refine dQ e hgg1 (fun w1 e hx1 hgeg1 hltg1 cg1=> ?_);clear hgg1
 replace ta0:=ta0.below hx1
 replace ta2:=ta2.below hx1
 replace ta1:=ta1.below hx1
 have k1_0:=cg1.always hltg1 0 _ rfl;simp only[Nat.zero_add]at k1_0;clear cg1
 by_cases hsl2:1048576<a2.length
 case pos=>
  go_wp2_with fail
  go_ret;exact⟨rfl,aK.old hx1 e⟩
 replace hsl2:a2.length≤1048576:=by omega
 go_wp2_with fail
 refine(Gl a0 1048576 _ (ta0.below e.h) (by unfold maxLen;omega) (by omega) (by omega)).mono ?_;rintro _ W1 ⟨z1,L0,rfl,hr0⟩;have hq2:=Ext.trans e.h z1;have hs2:=hq2.size
 replace k1_0:=k1_0.ext hq2
 replace ta0:=ta0.below hq2
 replace ta2:=ta2.below hq2
 replace ta1:=ta1.below hq2
 have hy3:=Ext.trans hx1 hq2;obtain⟨e,he⟩:∃e:aK W1,W1=e.to:=⟨⟨W1,Below.refl _ _⟩,rfl⟩;rw[he];clear he;rcases hr0 with rfl|⟨hr0_0,hr1_0,sm0⟩
 case inl=>
  go_wp2_with fail
  go_ret;exact⟨rfl,aK.old hy3 e⟩
 have hr2_0:L0≤1048576:=by omega
 have SM0:=Lib.hid sm0;have HL0:=Lib.hid hr1_0;clear sm0 hr1_0
 go_wp2_with fail
 obtain⟨_,_,_, -, -, -,nl1_0,ml1_0⟩:=aG.us (x:=a1) (TN.below ta1 e.h);refine(BG a1 L0 _ (ta1.below e.h) (Nat.le_trans nl1_0 ml1_0) (by omega) (by omega)).mono ?_;rintro _ W2 ⟨z2,L1,rfl,hr1⟩;have hq4:=Ext.trans e.h z2;have hs4:=hq4.size
 replace k1_0:=k1_0.ext hq4
 replace ta0:=ta0.below hq4
 replace ta2:=ta2.below hq4
 replace ta1:=ta1.below hq4
 have hy5:=Ext.trans hy3 hq4;obtain⟨e,he⟩:∃e:aK W2,W2=e.to:=⟨⟨W2,Below.refl _ _⟩,rfl⟩;rw[he];clear he;rcases hr1 with rfl|⟨hr0_1,hr1_1,sm1⟩
 case inl=>
  go_wp2_with fail
  go_ret;exact⟨rfl,aK.old hy5 e⟩
 have hr2_1:L1≤1048576:=by omega
 have SM1:=Lib.hid sm1;have HL1:=Lib.hid hr1_1;clear sm1 hr1_1
 go_wp2_with fail
 refine x9 e (W2.heap.size) (by kernel_rfl) 14 (by kernel_rfl) (fun wR6 hxwR6=> ?_);have hs_wR6:=hxwR6.size
 replace k1_0:=k1_0.ext hxwR6
 replace ta0:=ta0.below hxwR6
 replace ta2:=ta2.below hxwR6
 replace ta1:=ta1.below hxwR6
 have hy7:=Ext.trans hy5 hxwR6;have B_k1_0:=k1_0.b (N:=W2.heap.size) (by omega);refine D8 ⟨11,10,fun g=>.pointer (some ⟨g,0,none⟩),.cells #[.slice none 0 0,.slice none 0 0,.int .i64 0,.int .i64 0,.slice none 0 0,.slice none 0 0,.slice none 0 0,.slice none 0 0] 37⟩ ⟨⟨_,rfl,rfl⟩,fun K a w h=>mU rfl (by go_wp2_with fail;exact h)⟩ (fun hfl=> ?_);refine iL 0 rfl (by omega) hfl (by kernel_rfl) ?_;go_big_quiet_step (fail);refine wpQuiet_nil ?_;refine iL 2 rfl (by omega) hfl (by kernel_rfl) ?_;go_big_quiet_step (fail);refine wpQuiet_nil ?_;refine iL 4 rfl (by omega) hfl (by kernel_rfl) ?_;go_big_quiet_step (fail);refine wpQuiet_nil ?_
 refine iL 6 rfl (by omega) hfl (by kernel_rfl) ?_;go_big_quiet_step (fail);refine wpQuiet_nil ?_;refine ng 1 rfl (by omega) (fun x hx=>by simp at hx) hfl (by kernel_rfl) (fun e=> ?_)
 go_wp2_with fail
 refine(pJ a0 _ (ta0.below e.h) SM0.out).mono ?_;rintro _ W3 ⟨B3,D3,q3,rfl,z3,T3,O3⟩;have lo3:∀b∈q3,e.to.heap.size≤b∧b<W3.heap.size:=fun b hb=>⟨(O3.2 b hb).1,T3.lt b hb⟩
 have sz3:=e.h.size;have sw3:=(Ext.trans hy7 e.h).size
 go_wp2_with fail
 refine aI z3 ⟨q3,lo3,?_⟩;have hq8:=Ext.trans e.h z3;have hs8:=hq8.size
 replace k1_0:=k1_0.ext hq8
 replace ta0:=ta0.below hq8
 replace ta2:=ta2.below hq8
 replace ta1:=ta1.below hq8
 have hy9:=Ext.trans hy7 hq8
 replace B_k1_0:=B_k1_0.go (hq8.mono (by omega))
 refine ng 3 rfl (by omega) (fun x hx=>by simp only[qT,List.mem_cons,List.not_mem_nil,or_false,false_or,qS,or_assoc]at hx;have h1:=lo3 x hx;omega) hfl (by kernel_rfl) (fun e=> ?_)
 go_wp2_with fail
 refine(oF a1 _ (ta1.below e.h) SM1.out).mono ?_;rintro _ W4 ⟨_,q4,rfl,z4,T4,O4⟩;obtain⟨_,_,_,rfl, -⟩:=aG.us T4;have lo4:∀b∈q4,e.to.heap.size≤b∧b<W4.heap.size:=fun b hb=>⟨(O4.2 b hb).1,T4.lt b hb⟩
 have sz4:=e.h.size;have sw4:=(Ext.trans hy9 e.h).size
 go_wp2_with fail
 refine aI z4 ⟨q4,lo4,?_⟩;have hq10:=Ext.trans e.h z4;have hs10:=hq10.size
 replace k1_0:=k1_0.ext hq10
 replace ta0:=ta0.below hq10
 replace ta2:=ta2.below hq10
 replace ta1:=ta1.below hq10
 replace T3:=T3.below hq10
 replace O3:=O3.below hq10
 have hy11:=Ext.trans hy9 hq10
 replace B_k1_0:=B_k1_0.go (hq10.mono (by omega))
 refine ng 5 rfl (by omega) (fun x hx=>by simp only[qT,List.mem_cons,List.not_mem_nil,or_false,false_or,qS,or_assoc]at hx;rcases hx with hx|hx<;>first|(have h1:=lo4 x hx;omega)|(have h1:=lo3 x hx;omega)) hfl (by kernel_rfl) (fun e=> ?_)
 go_wp2_with fail
 refine(kC a2 _ (ta2.below e.h) hsl2).mono ?_;rintro _ W5 ⟨B5,D5,q5,rfl,z5,T5,O5⟩;have lo5:∀b∈q5,e.to.heap.size≤b∧b<W5.heap.size:=fun b hb=>⟨(O5.2 b hb).1,T5.lt b hb⟩
 have sz5:=e.h.size;have sw5:=(Ext.trans hy11 e.h).size
 go_wp2_with fail
 refine aI z5 ⟨q5,lo5,?_⟩;have hq12:=Ext.trans e.h z5;have hs12:=hq12.size
 replace k1_0:=k1_0.ext hq12
 replace ta0:=ta0.below hq12
 replace ta2:=ta2.below hq12
 replace ta1:=ta1.below hq12
 replace T3:=T3.below hq12
 replace T4:=T4.below hq12
 replace O3:=O3.below hq12
 replace O4:=O4.below hq12
 have hy13:=Ext.trans hy11 hq12
 replace B_k1_0:=B_k1_0.go (hq12.mono (by omega))
 refine ng 7 rfl (by omega) (fun x hx=>by simp only[qT,List.mem_cons,List.not_mem_nil,or_false,false_or,qS,or_assoc]at hx;rcases hx with hx|hx|hx<;>first|(have h1:=lo5 x hx;omega)|(have h1:=lo4 x hx;omega)|(have h1:=lo3 x hx;omega)) hfl (by kernel_rfl) (fun e=> ?_)
 go_wp2_with fail
 refine(wW a0 a1 a2 a3 r0 r1 hR _ (T3.below e.h) (T4.below e.h) (T5.below e.h)).mono ?_;rintro _ W6 ⟨_,q6_0,rfl,z6,T6_0,O6⟩;obtain⟨A6_0_0,c6_0_0,_,A6_0_1,c6_0_1,_,A6_0_4,c6_0_4,_,A6_0_5,c6_0_5,_,A6_0_6,c6_0_6,_,A6_0_7,c6_0_7,_,rfl, -⟩:=aL.us T6_0;have O6_0:=O6;have lo6_0:∀b∈q6_0,e.to.heap.size≤b∧b<W6.heap.size:=fun b hb=>⟨(O6_0.2 b hb).1,T6_0.lt b hb⟩
 have sz6:=e.h.size;have sw6:=(Ext.trans hy13 e.h).size
 go_wp2_with fail
 refine aI z6 ⟨q6_0,lo6_0,?_⟩;have hq14:=Ext.trans e.h z6;have hs14:=hq14.size
 replace k1_0:=k1_0.ext hq14
 replace ta0:=ta0.below hq14
 replace ta2:=ta2.below hq14
 replace ta1:=ta1.below hq14
 replace T3:=T3.below hq14
 replace T4:=T4.below hq14
 replace T5:=T5.below hq14
 replace O3:=O3.below hq14
 replace O4:=O4.below hq14
 replace O5:=O5.below hq14
 have hy15:=Ext.trans hy13 hq14
 replace B_k1_0:=B_k1_0.go (hq14.mono (by omega))
 refine iL 8 rfl (by omega) hfl (by kernel_rfl) ?_;go_big_quiet_step (fail);refine wpQuiet_nil ?_;refine iL 9 rfl (by omega) hfl (by kernel_rfl) ?_;go_big_quiet_step (fail);refine wpQuiet_nil ?_;refine iL 10 rfl (by omega) hfl (by kernel_rfl) ?_;go_big_quiet_step (fail);refine wpQuiet_nil ?_;refine Hw (by omega) (fun x hx=>by simp only[qT,List.mem_cons,List.not_mem_nil,or_false,false_or,qS,or_assoc]at hx;rcases hx with hx|hx|hx|hx<;>first|(have h1:=lo6_0 x hx;omega)|(have h1:=lo5 x hx;omega)|(have h1:=lo4 x hx;omega)|(have h1:=lo3 x hx;omega)) hfl (by kernel_rfl) (fun gf10 wL10 hxwL10 hgegf10 hnxgf10 rowgf10=> ?_)
 have hn_gf10_0:∀y∈q6_0,y≠gf10:=fun y hy h=>hnxgf10 (by simp[←h,hy])
 clear hnxgf10 hfl;have hltgf10:=dW rowgf10;have hs_wL10:=hxwL10.size;have fgf10:=Lf rowgf10;have cgf10_0:=dz rowgf10 0 (v:=.slice none 0 0) rfl;have cgf10_1:=dz rowgf10 1 (v:=.slice none 0 0) rfl;have cgf10_2:=dz rowgf10 2 (v:=.int .i64 0) rfl;have cgf10_3:=dz rowgf10 3 (v:=.int .i64 0) rfl;have cgf10_4:=dz rowgf10 4 (v:=.slice none 0 0) rfl;have cgf10_5:=dz rowgf10 5 (v:=.slice none 0 0) rfl;have cgf10_6:=dz rowgf10 6 (v:=.slice none 0 0) rfl;have cgf10_7:=dz rowgf10 7 (v:=.slice none 0 0) rfl;clear B_k1_0
 replace k1_0:=k1_0.ext hxwL10
 replace ta0:=ta0.below hxwL10
 replace ta2:=ta2.below hxwL10
 replace ta1:=ta1.below hxwL10
 replace T6_0:=T6_0.below hxwL10
 replace O6_0:=O6_0.below hxwL10
 have hy16:=Ext.trans hy15 hxwL10;refine JW 12 rfl (by kernel_rfl) (fun e he=> ?_);clear he
 go_wp2_with fail
 generalize hW:World.setCell (World.setCell (World.setCell (World.setCell (World.setCell (World.setCell (World.setCell (World.setCell e.to ⟨gf10,0,none⟩ (.slice A6_0_0 r0.book.length c6_0_0)) ⟨gf10,1,none⟩ (.slice A6_0_1 r0.schedule.length c6_0_1)) ⟨gf10,2,none⟩ (.int .i64 r0.every)) ⟨gf10,3,none⟩ (.int .i64 r0.at_)) ⟨gf10,4,none⟩ (.slice A6_0_4 r0.net.agents.length c6_0_4)) ⟨gf10,5,none⟩ (.slice A6_0_5 r0.origins.length c6_0_5)) ⟨gf10,6,none⟩ (.slice A6_0_6 r0.breaks.length c6_0_6)) ⟨gf10,7,none⟩ (.slice A6_0_7 r0.points.length c6_0_7)=wS10;have hbwS10:mX [gf10] e.to wS10:=by rw[←hW];exact iZ.gG (((((((((iZ.refl _ _).setCell (by simp) _ _).setCell (by simp) _ _).setCell (by simp) _ _).setCell (by simp) _ _).setCell (by simp) _ _).setCell (by simp) _ _).setCell (by simp) _ _).setCell (by simp) _ _)
 have nrgf10:wS10.heap[gf10]? =some (.cells #[.slice A6_0_0 r0.book.length c6_0_0,.slice A6_0_1 r0.schedule.length c6_0_1,.int .i64 r0.every,.int .i64 r0.at_,.slice A6_0_4 r0.net.agents.length c6_0_4,.slice A6_0_5 r0.origins.length c6_0_5,.slice A6_0_6 r0.breaks.length c6_0_6,.slice A6_0_7 r0.points.length c6_0_7] 37 (0,0)):=by rw[←hW];exact(Rows.aV (Rows.aV (Rows.aV (Rows.aV (Rows.aV (Rows.aV (Rows.aV (Rows.aV (C9 rowgf10 e)))))))))
 clear hW;refine aI (mX.below hbwS10 (by have:=e.h.size;omega) (fun y hm=>by simp at hm;omega)) ?_;have hs_wS10:=Nat.le_trans e.h.size hbwS10.size
 replace k1_0:=k1_0.gG e hbwS10 (by omega) (fun hm=>by simp at hm;omega)
 replace ta0:=(ta0.below e.h).gG hbwS10 (fun y hy hm=>by have h1:=loa0 y hy;simp at hm;omega)
 replace ta2:=(ta2.below e.h).gG hbwS10 (fun y hy hm=>by have h1:=loa2 y hy;simp at hm;omega)
 replace ta1:=(ta1.below e.h).gG hbwS10 (fun y hy hm=>by have h1:=loa1 y hy;simp at hm;omega)
 replace T6_0:=(T6_0.below e.h).gG hbwS10 (fun y hy hm=>by have h1:=lo6_0 y hy;have h2:=hn_gf10_0 y hy;simp at hm;omega)
 replace O6_0:=(O6_0.below e.h).gG hbwS10 (fun y hy hm=>by have h1:=lo6_0 y hy;have h2:=hn_gf10_0 y hy;simp at hm;omega)
 have hy_wS10:Ext w wS10:=Below.trans (Ext.trans hy16 e.h) (mX.below hbwS10 (B:=w.heap.size) ((Ext.trans hy16 e.h)).size (fun y hm=>by simp at hm;omega));have kf10_0:=dz nrgf10 0 (v:=.slice A6_0_0 r0.book.length c6_0_0) rfl;have kf10_1:=dz nrgf10 1 (v:=.slice A6_0_1 r0.schedule.length c6_0_1) rfl;have kf10_2:=dz nrgf10 2 (v:=.int .i64 r0.every) rfl;have kf10_3:=dz nrgf10 3 (v:=.int .i64 r0.at_) rfl;have kf10_4:=dz nrgf10 4 (v:=.slice A6_0_4 r0.net.agents.length c6_0_4) rfl;have kf10_5:=dz nrgf10 5 (v:=.slice A6_0_5 r0.origins.length c6_0_5) rfl
 have kf10_6:=dz nrgf10 6 (v:=.slice A6_0_6 r0.breaks.length c6_0_6) rfl;have kf10_7:=dz nrgf10 7 (v:=.slice A6_0_7 r0.points.length c6_0_7) rfl;clear fgf10 rowgf10 nrgf10 cgf10_0 cgf10_1 cgf10_2 cgf10_3 cgf10_4 cgf10_5 cgf10_6 cgf10_7;refine JX 13 rfl (by kernel_rfl) ?_;go_big_quiet_step (fail);refine wpQuiet_nil ?_;refine JU (by kernel_rfl) (fun e he=> ?_);clear he
 go_wp2_with fail
 refine(pJ a0 _ (ta0.below e.h) SM0.out).mono ?_;rintro _ W7 ⟨B7,D7,q7,rfl,z7,T7,O7⟩;have lo7:∀b∈q7,e.to.heap.size≤b∧b<W7.heap.size:=fun b hb=>⟨(O7.2 b hb).1,T7.lt b hb⟩
 have sz7:=e.h.size;have sw7:=(Ext.trans hy_wS10 e.h).size;have hq17:=Ext.trans e.h z7;have hs17:=hq17.size
 replace k1_0:=k1_0.ext hq17
 replace kf10_0:=kf10_0.ext hq17
 replace kf10_1:=kf10_1.ext hq17
 replace kf10_2:=kf10_2.ext hq17
 replace kf10_3:=kf10_3.ext hq17
 replace kf10_4:=kf10_4.ext hq17
 replace kf10_5:=kf10_5.ext hq17
 replace kf10_6:=kf10_6.ext hq17
 replace kf10_7:=kf10_7.ext hq17
 replace ta0:=ta0.below hq17
 replace ta2:=ta2.below hq17
 replace ta1:=ta1.below hq17
 replace T6_0:=T6_0.below hq17
 replace O6_0:=O6_0.below hq17
 have hy18:=Ext.trans hy_wS10 hq17;obtain⟨e,he⟩:∃e:aK W7,W7=e.to:=⟨⟨W7,Below.refl _ _⟩,rfl⟩;rw[he];clear he
 go_wp2_with fail
 refine(oF a1 _ (ta1.below e.h) SM1.out).mono ?_;rintro _ W8 ⟨_,q8,rfl,z8,T8,O8⟩;obtain⟨_,_,_,rfl, -⟩:=aG.us T8;have lo8:∀b∈q8,e.to.heap.size≤b∧b<W8.heap.size:=fun b hb=>⟨(O8.2 b hb).1,T8.lt b hb⟩
 have sz8:=e.h.size;have sw8:=(Ext.trans hy18 e.h).size;have hq19:=Ext.trans e.h z8;have hs19:=hq19.size
 replace k1_0:=k1_0.ext hq19
 replace kf10_0:=kf10_0.ext hq19
 replace kf10_1:=kf10_1.ext hq19
 replace kf10_2:=kf10_2.ext hq19
 replace kf10_3:=kf10_3.ext hq19
 replace kf10_4:=kf10_4.ext hq19
 replace kf10_5:=kf10_5.ext hq19
 replace kf10_6:=kf10_6.ext hq19
 replace kf10_7:=kf10_7.ext hq19
 replace ta0:=ta0.below hq19
 replace ta2:=ta2.below hq19
 replace ta1:=ta1.below hq19
 replace T6_0:=T6_0.below hq19
 replace T7:=T7.below hq19
 replace O6_0:=O6_0.below hq19
 replace O7:=O7.below hq19
 have hy20:=Ext.trans hy18 hq19;obtain⟨e,he⟩:∃e:aK W8,W8=e.to:=⟨⟨W8,Below.refl _ _⟩,rfl⟩
 go_upto_region 13 with(fail)
 clear he;generalize hggx1:e.to.heap.size=gx1;refine dQ e hggx1 (fun w21 e hx21 hgegx1 hltgx1 cgx1=> ?_);clear hggx1
 replace k1_0:=k1_0.ext hx21
 replace kf10_0:=kf10_0.ext hx21
 replace kf10_1:=kf10_1.ext hx21
 replace kf10_2:=kf10_2.ext hx21
 replace kf10_3:=kf10_3.ext hx21
 replace kf10_4:=kf10_4.ext hx21
 replace kf10_5:=kf10_5.ext hx21
 replace kf10_6:=kf10_6.ext hx21
 replace kf10_7:=kf10_7.ext hx21
 replace ta0:=ta0.below hx21
 replace ta2:=ta2.below hx21
 replace ta1:=ta1.below hx21
 replace T6_0:=T6_0.below hx21
 replace T7:=T7.below hx21
 replace T8:=T8.below hx21
 replace O6_0:=O6_0.below hx21
 replace O7:=O7.below hx21
 replace O8:=O8.below hx21
 have hy21:=Ext.trans hy20 hx21;have hs_gx1:=hx21.size;have kx1_0:=cgx1.always hltgx1 0 _ rfl;simp only[Nat.zero_add]at kx1_0;clear cgx1
 go_wp2_with fail
 refine(kC a2 _ (ta2.below e.h) hsl2).mono ?_;rintro _ W9 ⟨B9,D9,q9,rfl,z9,T9,O9⟩;have lo9:∀b∈q9,e.to.heap.size≤b∧b<W9.heap.size:=fun b hb=>⟨(O9.2 b hb).1,T9.lt b hb⟩
 have sz9:=e.h.size;have sw9:=(Ext.trans hy21 e.h).size;have hq22:=Ext.trans e.h z9;have hs22:=hq22.size
 replace k1_0:=k1_0.ext hq22
 replace kf10_0:=kf10_0.ext hq22
 replace kf10_1:=kf10_1.ext hq22
 replace kf10_2:=kf10_2.ext hq22
 replace kf10_3:=kf10_3.ext hq22
 replace kf10_4:=kf10_4.ext hq22
 replace kf10_5:=kf10_5.ext hq22
 replace kf10_6:=kf10_6.ext hq22
 replace kf10_7:=kf10_7.ext hq22
 replace kx1_0:=kx1_0.ext hq22
 replace ta0:=ta0.below hq22
 replace ta2:=ta2.below hq22
 replace ta1:=ta1.below hq22
 replace T6_0:=T6_0.below hq22
 replace T7:=T7.below hq22
 replace T8:=T8.below hq22
 replace O6_0:=O6_0.below hq22
 replace O7:=O7.below hq22
 replace O8:=O8.below hq22
 have hy23:=Ext.trans hy21 hq22;obtain⟨e,he⟩:∃e:aK W9,W9=e.to:=⟨⟨W9,Below.refl _ _⟩,rfl⟩;rw[he];clear he
 go_wp2_with fail
 refine(nX a0 a1 a2 a3 r0 r1 hR _ (T7.below e.h) (T8.below e.h) (T9.below e.h)).mono ?_;rintro _ W10 ⟨_,q10_0,rfl,z10,T10_0,O10⟩;obtain⟨A10_0_0,c10_0_0,_,A10_0_1,c10_0_1,_,A10_0_4,c10_0_4,_,A10_0_5,c10_0_5,_,A10_0_6,c10_0_6,_,A10_0_7,c10_0_7,_,rfl, -⟩:=aL.us T10_0;have O10_0:=O10;have lo10_0:∀b∈q10_0,e.to.heap.size≤b∧b<W10.heap.size:=fun b hb=>⟨(O10_0.2 b hb).1,T10_0.lt b hb⟩
 have sz10:=e.h.size;have sw10:=(Ext.trans hy23 e.h).size;have hq24:=Ext.trans e.h z10;have hs24:=hq24.size
 replace k1_0:=k1_0.ext hq24
 replace kf10_0:=kf10_0.ext hq24
 replace kf10_1:=kf10_1.ext hq24
 replace kf10_2:=kf10_2.ext hq24
 replace kf10_3:=kf10_3.ext hq24
 replace kf10_4:=kf10_4.ext hq24
 replace kf10_5:=kf10_5.ext hq24
 replace kf10_6:=kf10_6.ext hq24
 replace kf10_7:=kf10_7.ext hq24
 replace kx1_0:=kx1_0.ext hq24
 replace ta0:=ta0.below hq24
 replace ta2:=ta2.below hq24
 replace ta1:=ta1.below hq24
 replace T6_0:=T6_0.below hq24
 replace T7:=T7.below hq24
 replace T8:=T8.below hq24
 replace T9:=T9.below hq24
 replace O6_0:=O6_0.below hq24
 replace O7:=O7.below hq24
 replace O8:=O8.below hq24
 replace O9:=O9.below hq24
 have hy25:=Ext.trans hy23 hq24;obtain⟨e,he⟩:∃e:aK W10,W10=e.to:=⟨⟨W10,Below.refl _ _⟩,rfl⟩;rw[he];clear he
 go_upto_region 15 with(fail)
 generalize hggbg0:e.to.heap.size=gbg0;refine dQ e hggbg0 (fun w26 e hx26 hgegbg0 hltgbg0 cgbg0=> ?_);clear hggbg0
 replace k1_0:=k1_0.ext hx26
 replace kf10_0:=kf10_0.ext hx26
 replace kf10_1:=kf10_1.ext hx26
 replace kf10_2:=kf10_2.ext hx26
 replace kf10_3:=kf10_3.ext hx26
 replace kf10_4:=kf10_4.ext hx26
 replace kf10_5:=kf10_5.ext hx26
 replace kf10_6:=kf10_6.ext hx26
 replace kf10_7:=kf10_7.ext hx26
 replace kx1_0:=kx1_0.ext hx26
 replace ta0:=ta0.below hx26
 replace ta2:=ta2.below hx26
 replace ta1:=ta1.below hx26
 replace T6_0:=T6_0.below hx26
 replace T7:=T7.below hx26
 replace T8:=T8.below hx26
 replace T9:=T9.below hx26
 replace T10_0:=T10_0.below hx26
 replace O6_0:=O6_0.below hx26
 replace O7:=O7.below hx26
 replace O8:=O8.below hx26
 replace O9:=O9.below hx26
 replace O10_0:=O10_0.below hx26
 have hy26:=Ext.trans hy25 hx26;have hs_gbg0:=hx26.size;have kbg0_0:=cgbg0.always hltgbg0 0 _ rfl;have kbg0_1:=cgbg0.always hltgbg0 1 _ rfl;have kbg0_2:=cgbg0.always hltgbg0 2 _ rfl;have kbg0_3:=cgbg0.always hltgbg0 3 _ rfl;have kbg0_4:=cgbg0.always hltgbg0 4 _ rfl;have kbg0_5:=cgbg0.always hltgbg0 5 _ rfl;have kbg0_6:=cgbg0.always hltgbg0 6 _ rfl;have kbg0_7:=cgbg0.always hltgbg0 7 _ rfl;simp only[Nat.zero_add]at kbg0_0 kbg0_1 kbg0_2 kbg0_3 kbg0_4 kbg0_5 kbg0_6 kbg0_7;clear cgbg0;have ee_r0:kX r0 r0=true:=eT r0
 go_wp2_with fail
 refine(mF r0 r0 _ (T10_0.below e.h) (T6_0.below e.h)).mono ?_;rintro _ W11 ⟨rfl,z11⟩;have hq27:=Ext.trans e.h z11;have hs27:=hq27.size
 replace k1_0:=k1_0.ext hq27
 replace kf10_0:=kf10_0.ext hq27
 replace kf10_1:=kf10_1.ext hq27
 replace kf10_2:=kf10_2.ext hq27
 replace kf10_3:=kf10_3.ext hq27
 replace kf10_4:=kf10_4.ext hq27
 replace kf10_5:=kf10_5.ext hq27
 replace kf10_6:=kf10_6.ext hq27
 replace kf10_7:=kf10_7.ext hq27
 replace kx1_0:=kx1_0.ext hq27
 replace kbg0_0:=kbg0_0.ext hq27
 replace kbg0_1:=kbg0_1.ext hq27
 replace kbg0_2:=kbg0_2.ext hq27
 replace kbg0_3:=kbg0_3.ext hq27
 replace kbg0_4:=kbg0_4.ext hq27
 replace kbg0_5:=kbg0_5.ext hq27
 replace kbg0_6:=kbg0_6.ext hq27
 replace kbg0_7:=kbg0_7.ext hq27
 replace ta0:=ta0.below hq27
 replace ta2:=ta2.below hq27
 replace ta1:=ta1.below hq27
 replace T6_0:=T6_0.below hq27
 replace T7:=T7.below hq27
 replace T8:=T8.below hq27
 replace T9:=T9.below hq27
 replace T10_0:=T10_0.below hq27
 replace O6_0:=O6_0.below hq27
 replace O7:=O7.below hq27
 replace O8:=O8.below hq27
 replace O9:=O9.below hq27
 replace O10_0:=O10_0.below hq27
 have hy28:=Ext.trans hy26 hq27;obtain⟨e,he⟩:∃e:aK W11,W11=e.to:=⟨⟨W11,Below.refl _ _⟩,rfl⟩;rw[he];clear he;have ee_a0:kX a0 a0=true:=eT a0
 go_wp2_with fail
 refine(pJ a0 _ (ta0.below e.h) SM0.out).mono ?_;rintro _ W12 ⟨B12,D12,q12,rfl,z12,T12,O12⟩;have lo12:∀b∈q12,e.to.heap.size≤b∧b<W12.heap.size:=fun b hb=>⟨(O12.2 b hb).1,T12.lt b hb⟩
 have sz12:=e.h.size;have sw12:=(Ext.trans hy28 e.h).size;have hq29:=Ext.trans e.h z12;have hs29:=hq29.size
 replace k1_0:=k1_0.ext hq29
 replace kf10_0:=kf10_0.ext hq29
 replace kf10_1:=kf10_1.ext hq29
 replace kf10_2:=kf10_2.ext hq29
 replace kf10_3:=kf10_3.ext hq29
 replace kf10_4:=kf10_4.ext hq29
 replace kf10_5:=kf10_5.ext hq29
 replace kf10_6:=kf10_6.ext hq29
 replace kf10_7:=kf10_7.ext hq29
 replace kx1_0:=kx1_0.ext hq29
 replace kbg0_0:=kbg0_0.ext hq29
 replace kbg0_1:=kbg0_1.ext hq29
 replace kbg0_2:=kbg0_2.ext hq29
 replace kbg0_3:=kbg0_3.ext hq29
 replace kbg0_4:=kbg0_4.ext hq29
 replace kbg0_5:=kbg0_5.ext hq29
 replace kbg0_6:=kbg0_6.ext hq29
 replace kbg0_7:=kbg0_7.ext hq29
 replace ta0:=ta0.below hq29
 replace ta2:=ta2.below hq29
 replace ta1:=ta1.below hq29
 replace T6_0:=T6_0.below hq29
 replace T7:=T7.below hq29
 replace T8:=T8.below hq29
 replace T9:=T9.below hq29
 replace T10_0:=T10_0.below hq29
 replace O6_0:=O6_0.below hq29
 replace O7:=O7.below hq29
 replace O8:=O8.below hq29
 replace O9:=O9.below hq29
 replace O10_0:=O10_0.below hq29
 have hy30:=Ext.trans hy28 hq29;obtain⟨e,he⟩:∃e:aK W12,W12=e.to:=⟨⟨W12,Below.refl _ _⟩,rfl⟩;rw[he];clear he
 go_wp2_with fail
 refine(zf a0 a0 _ (T7.below e.h) (T12.below e.h) (by have:=T7.nJ;unfold maxLen;omega) (by have:=T7.nJ;unfold maxLen;omega)).mono ?_;rintro _ W13 ⟨rfl,z13⟩;have hq31:=Ext.trans e.h z13;have hs31:=hq31.size
 replace k1_0:=k1_0.ext hq31
 replace kf10_0:=kf10_0.ext hq31
 replace kf10_1:=kf10_1.ext hq31
 replace kf10_2:=kf10_2.ext hq31
 replace kf10_3:=kf10_3.ext hq31
 replace kf10_4:=kf10_4.ext hq31
 replace kf10_5:=kf10_5.ext hq31
 replace kf10_6:=kf10_6.ext hq31
 replace kf10_7:=kf10_7.ext hq31
 replace kx1_0:=kx1_0.ext hq31
 replace kbg0_0:=kbg0_0.ext hq31
 replace kbg0_1:=kbg0_1.ext hq31
 replace kbg0_2:=kbg0_2.ext hq31
 replace kbg0_3:=kbg0_3.ext hq31
 replace kbg0_4:=kbg0_4.ext hq31
 replace kbg0_5:=kbg0_5.ext hq31
 replace kbg0_6:=kbg0_6.ext hq31
 replace kbg0_7:=kbg0_7.ext hq31
 replace ta0:=ta0.below hq31
 replace ta2:=ta2.below hq31
 replace ta1:=ta1.below hq31
 replace T6_0:=T6_0.below hq31
 replace T7:=T7.below hq31
 replace T8:=T8.below hq31
 replace T9:=T9.below hq31
 replace T10_0:=T10_0.below hq31
 replace T12:=T12.below hq31
 replace O6_0:=O6_0.below hq31
 replace O7:=O7.below hq31
 replace O8:=O8.below hq31
 replace O9:=O9.below hq31
 replace O10_0:=O10_0.below hq31
 replace O12:=O12.below hq31
 have hy32:=Ext.trans hy30 hq31;obtain⟨e,he⟩:∃e:aK W13,W13=e.to:=⟨⟨W13,Below.refl _ _⟩,rfl⟩;rw[he];clear he;have ee_a1:kX a1 a1=true:=eT a1
 go_wp2_with fail
 refine Ao _ (by kernel_rfl) 5 (by kernel_rfl) ?_;refine wM 0 rfl (by kernel_rfl) ?_;go_big_quiet_step (fail);refine wpQuiet_nil ?_;refine wM 1 rfl (by kernel_rfl) ?_;go_big_quiet_step (fail);refine wpQuiet_nil ?_;refine Bj 2 rfl (by kernel_rfl) (fun e=> ?_)
 go_wp2_with fail
 refine(oF a1 _ (ta1.below e.h) SM1.out).mono ?_;rintro _ W14 ⟨_,q14,rfl,z14,T14,O14⟩;obtain⟨_,_,_,rfl, -⟩:=aG.us T14;have lo14:∀b∈q14,e.to.heap.size≤b∧b<W14.heap.size:=fun b hb=>⟨(O14.2 b hb).1,T14.lt b hb⟩
 have sz14:=e.h.size;have sw14:=(Ext.trans hy32 e.h).size
 go_wp2_with fail
 refine aI z14 ?_;have hq33:=Ext.trans e.h z14;have hs33:=hq33.size
 replace k1_0:=k1_0.ext hq33
 replace kf10_0:=kf10_0.ext hq33
 replace kf10_1:=kf10_1.ext hq33
 replace kf10_2:=kf10_2.ext hq33
 replace kf10_3:=kf10_3.ext hq33
 replace kf10_4:=kf10_4.ext hq33
 replace kf10_5:=kf10_5.ext hq33
 replace kf10_6:=kf10_6.ext hq33
 replace kf10_7:=kf10_7.ext hq33
 replace kx1_0:=kx1_0.ext hq33
 replace kbg0_0:=kbg0_0.ext hq33
 replace kbg0_1:=kbg0_1.ext hq33
 replace kbg0_2:=kbg0_2.ext hq33
 replace kbg0_3:=kbg0_3.ext hq33
 replace kbg0_4:=kbg0_4.ext hq33
 replace kbg0_5:=kbg0_5.ext hq33
 replace kbg0_6:=kbg0_6.ext hq33
 replace kbg0_7:=kbg0_7.ext hq33
 replace ta0:=ta0.below hq33
 replace ta2:=ta2.below hq33
 replace ta1:=ta1.below hq33
 replace T6_0:=T6_0.below hq33
 replace T7:=T7.below hq33
 replace T8:=T8.below hq33
 replace T9:=T9.below hq33
 replace T10_0:=T10_0.below hq33
 replace O6_0:=O6_0.below hq33
 replace O7:=O7.below hq33
 replace O8:=O8.below hq33
 replace O9:=O9.below hq33
 replace O10_0:=O10_0.below hq33
 have hy34:=Ext.trans hy32 hq33;refine Bj 3 rfl (by kernel_rfl) (fun e=> ?_)
 go_wp2_with fail
 refine(nQ a1 a1 _ (T8.below e.h) (T14.below e.h)).mono ?_;rintro _ W15 ⟨rfl,z15⟩
 go_wp2_with fail
 refine aI z15 ?_;have hq35:=Ext.trans e.h z15;have hs35:=hq35.size
 replace k1_0:=k1_0.ext hq35
 replace kf10_0:=kf10_0.ext hq35
 replace kf10_1:=kf10_1.ext hq35
 replace kf10_2:=kf10_2.ext hq35
 replace kf10_3:=kf10_3.ext hq35
 replace kf10_4:=kf10_4.ext hq35
 replace kf10_5:=kf10_5.ext hq35
 replace kf10_6:=kf10_6.ext hq35
 replace kf10_7:=kf10_7.ext hq35
 replace kx1_0:=kx1_0.ext hq35
 replace kbg0_0:=kbg0_0.ext hq35
 replace kbg0_1:=kbg0_1.ext hq35
 replace kbg0_2:=kbg0_2.ext hq35
 replace kbg0_3:=kbg0_3.ext hq35
 replace kbg0_4:=kbg0_4.ext hq35
 replace kbg0_5:=kbg0_5.ext hq35
 replace kbg0_6:=kbg0_6.ext hq35
 replace kbg0_7:=kbg0_7.ext hq35
 replace ta0:=ta0.below hq35
 replace ta2:=ta2.below hq35
 replace ta1:=ta1.below hq35
 replace T6_0:=T6_0.below hq35
 replace T7:=T7.below hq35
 replace T8:=T8.below hq35
 replace T9:=T9.below hq35
 replace T10_0:=T10_0.below hq35
 replace T14:=T14.below hq35
 replace O6_0:=O6_0.below hq35
 replace O7:=O7.below hq35
 replace O8:=O8.below hq35
 replace O9:=O9.below hq35
 replace O10_0:=O10_0.below hq35
 replace O14:=O14.below hq35
 have hy36:=Ext.trans hy34 hq35;refine wM 4 rfl (by kernel_rfl) ?_;go_big_quiet_step (fail);refine wpQuiet_nil ?_;refine Je (by kernel_rfl) (fun e=> ?_);have ee_a2:kX a2 a2=true:=eT a2
 go_wp2_with fail
 refine(kC a2 _ (ta2.below e.h) hsl2).mono ?_;rintro _ W16 ⟨B16,D16,q16,rfl,z16,T16,O16⟩;have lo16:∀b∈q16,e.to.heap.size≤b∧b<W16.heap.size:=fun b hb=>⟨(O16.2 b hb).1,T16.lt b hb⟩
 have sz16:=e.h.size;have sw16:=(Ext.trans hy36 e.h).size;have hq37:=Ext.trans e.h z16;have hs37:=hq37.size
 replace k1_0:=k1_0.ext hq37
 replace kf10_0:=kf10_0.ext hq37
 replace kf10_1:=kf10_1.ext hq37
 replace kf10_2:=kf10_2.ext hq37
 replace kf10_3:=kf10_3.ext hq37
 replace kf10_4:=kf10_4.ext hq37
 replace kf10_5:=kf10_5.ext hq37
 replace kf10_6:=kf10_6.ext hq37
 replace kf10_7:=kf10_7.ext hq37
 replace kx1_0:=kx1_0.ext hq37
 replace kbg0_0:=kbg0_0.ext hq37
 replace kbg0_1:=kbg0_1.ext hq37
 replace kbg0_2:=kbg0_2.ext hq37
 replace kbg0_3:=kbg0_3.ext hq37
 replace kbg0_4:=kbg0_4.ext hq37
 replace kbg0_5:=kbg0_5.ext hq37
 replace kbg0_6:=kbg0_6.ext hq37
 replace kbg0_7:=kbg0_7.ext hq37
 replace ta0:=ta0.below hq37
 replace ta2:=ta2.below hq37
 replace ta1:=ta1.below hq37
 replace T6_0:=T6_0.below hq37
 replace T7:=T7.below hq37
 replace T8:=T8.below hq37
 replace T9:=T9.below hq37
 replace T10_0:=T10_0.below hq37
 replace O6_0:=O6_0.below hq37
 replace O7:=O7.below hq37
 replace O8:=O8.below hq37
 replace O9:=O9.below hq37
 replace O10_0:=O10_0.below hq37
 have hy38:=Ext.trans hy36 hq37;obtain⟨e,he⟩:∃e:aK W16,W16=e.to:=⟨⟨W16,Below.refl _ _⟩,rfl⟩;rw[he];clear he
 go_wp2_with fail
 refine(oP a2 a2 _ (T9.below e.h) (T16.below e.h) (by have:=T9.nJ;unfold maxLen;omega) (by have:=T9.nJ;unfold maxLen;omega)).mono ?_;rintro _ W17 ⟨rfl,z17⟩;have hq39:=Ext.trans e.h z17;have hs39:=hq39.size
 replace k1_0:=k1_0.ext hq39
 replace kf10_0:=kf10_0.ext hq39
 replace kf10_1:=kf10_1.ext hq39
 replace kf10_2:=kf10_2.ext hq39
 replace kf10_3:=kf10_3.ext hq39
 replace kf10_4:=kf10_4.ext hq39
 replace kf10_5:=kf10_5.ext hq39
 replace kf10_6:=kf10_6.ext hq39
 replace kf10_7:=kf10_7.ext hq39
 replace kx1_0:=kx1_0.ext hq39
 replace kbg0_0:=kbg0_0.ext hq39
 replace kbg0_1:=kbg0_1.ext hq39
 replace kbg0_2:=kbg0_2.ext hq39
 replace kbg0_3:=kbg0_3.ext hq39
 replace kbg0_4:=kbg0_4.ext hq39
 replace kbg0_5:=kbg0_5.ext hq39
 replace kbg0_6:=kbg0_6.ext hq39
 replace kbg0_7:=kbg0_7.ext hq39
 replace ta0:=ta0.below hq39
 replace ta2:=ta2.below hq39
 replace ta1:=ta1.below hq39
 replace T6_0:=T6_0.below hq39
 replace T7:=T7.below hq39
 replace T8:=T8.below hq39
 replace T9:=T9.below hq39
 replace T10_0:=T10_0.below hq39
 replace T16:=T16.below hq39
 replace O6_0:=O6_0.below hq39
 replace O7:=O7.below hq39
 replace O8:=O8.below hq39
 replace O9:=O9.below hq39
 replace O10_0:=O10_0.below hq39
 replace O16:=O16.below hq39
 have hy40:=Ext.trans hy38 hq39;obtain⟨e,he⟩:∃e:aK W17,W17=e.to:=⟨⟨W17,Below.refl _ _⟩,rfl⟩;rw[he];clear he
 go_wp2_with fail
 have cb0:cN (a0.flatMap aG.enc)≤33554432:=by have h1:=bO (f:=aG.enc) (g:=aG.wt) aG.Ar a0;have h2:=HL0.out;omega
 have cb1:a1.cnt≤33554432:=by have h1:=aG.FC a1;have h2:=HL1.out;omega
 have cb2:cN (a2.flatMap aT)≤33554432:=by have:=BO a2;omega
 have rb0:r0.cnt≤1099511627776:=vR a0 a1 a2 a3 r0 r1 hR.out SM0.out SM1.out hsl2;refine(vN a0 1 _ (T7.below e.h) (O7.below e.h) (by have:=T7.nJ;unfold maxLen;omega) (by omega) (by omega)).mono ?_;rintro _ W18 ⟨kx0,rfl,hkx0,M18,f18,V18⟩;have pkx0:0≤kx0:=by have:=hkx0.out;omega
 have hsW18:=f18.size;have hszW18:=e.h.size
 replace k1_0:=k1_0.bR e f18 (by omega) (fun hm=>by have:=lo7 _ hm;omega)
 replace kf10_0:=kf10_0.bR e f18 (by omega) (fun hm=>by have:=lo7 _ hm;omega)
 replace kf10_1:=kf10_1.bR e f18 (by omega) (fun hm=>by have:=lo7 _ hm;omega)
 replace kf10_2:=kf10_2.bR e f18 (by omega) (fun hm=>by have:=lo7 _ hm;omega)
 replace kf10_3:=kf10_3.bR e f18 (by omega) (fun hm=>by have:=lo7 _ hm;omega)
 replace kf10_4:=kf10_4.bR e f18 (by omega) (fun hm=>by have:=lo7 _ hm;omega)
 replace kf10_5:=kf10_5.bR e f18 (by omega) (fun hm=>by have:=lo7 _ hm;omega)
 replace kf10_6:=kf10_6.bR e f18 (by omega) (fun hm=>by have:=lo7 _ hm;omega)
 replace kf10_7:=kf10_7.bR e f18 (by omega) (fun hm=>by have:=lo7 _ hm;omega)
 replace kx1_0:=kx1_0.bR e f18 (by omega) (fun hm=>by have:=lo7 _ hm;omega)
 replace kbg0_0:=kbg0_0.bR e f18 (by omega) (fun hm=>by have:=lo7 _ hm;omega)
 replace kbg0_1:=kbg0_1.bR e f18 (by omega) (fun hm=>by have:=lo7 _ hm;omega)
 replace kbg0_2:=kbg0_2.bR e f18 (by omega) (fun hm=>by have:=lo7 _ hm;omega)
 replace kbg0_3:=kbg0_3.bR e f18 (by omega) (fun hm=>by have:=lo7 _ hm;omega)
 replace kbg0_4:=kbg0_4.bR e f18 (by omega) (fun hm=>by have:=lo7 _ hm;omega)
 replace kbg0_5:=kbg0_5.bR e f18 (by omega) (fun hm=>by have:=lo7 _ hm;omega)
 replace kbg0_6:=kbg0_6.bR e f18 (by omega) (fun hm=>by have:=lo7 _ hm;omega)
 replace kbg0_7:=kbg0_7.bR e f18 (by omega) (fun hm=>by have:=lo7 _ hm;omega)
 replace ta0:=T1.bR (ta0.below e.h) f18 (fun y hy hm=>by have h1:=loa0 y hy;have h2:=lo7 y hm;omega)
 replace ta2:=T1.bR (ta2.below e.h) f18 (fun y hy hm=>by have h1:=loa2 y hy;have h2:=lo7 y hm;omega)
 replace ta1:=TN.bR (ta1.below e.h) f18 (fun y hy hm=>by have h1:=loa1 y hy;have h2:=lo7 y hm;omega)
 replace O6_0:=(O6_0.below e.h).bR f18
 replace T6_0:=TN.bR (T6_0.below e.h) f18 (fun y hy hm=>by have h1:=lo6_0 y hy;have h2:=lo7 y hm;omega)
 replace O8:=(O8.below e.h).bR f18
 replace T8:=TN.bR (T8.below e.h) f18 (fun y hy hm=>by have h1:=lo8 y hy;have h2:=lo7 y hm;omega)
 replace O9:=(O9.below e.h).bR f18
 replace T9:=T1.bR (T9.below e.h) f18 (fun y hy hm=>by have h1:=lo9 y hy;have h2:=lo7 y hm;omega)
 replace O10_0:=(O10_0.below e.h).bR f18
 replace T10_0:=TN.bR (T10_0.below e.h) f18 (fun y hy hm=>by have h1:=lo10_0 y hy;have h2:=lo7 y hm;omega)
 have hB18:Ext w W18:=Below.trans (Ext.trans hy40 e.h) (iZ.below f18 (Ext.trans hy40 e.h).size (fun y hm=>by have:=lo7 y hm;have:=(Ext.trans hy40 e.h).size;omega));obtain⟨e,he⟩:∃e:aK W18,W18=e.to:=⟨⟨W18,Below.refl _ _⟩,rfl⟩;rw[he];clear he;have bdkx0:kx0≤36028797018963968:=by have:=hkx0.out;omega
 go_wp2_with fail
 refine(xR a1 kx0 _ (T8.below e.h) (O8.below e.h) (by omega) (by omega)).mono ?_;rintro _ W19 ⟨kx1,rfl,hkx1,M19,f19,V19⟩;have pkx1:0≤kx1:=by have:=hkx1.out;omega
 have hsW19:=f19.size;have hszW19:=e.h.size
 replace k1_0:=k1_0.bR e f19 (by omega) (fun hm=>by have:=lo8 _ hm;omega)
 replace kf10_0:=kf10_0.bR e f19 (by omega) (fun hm=>by have:=lo8 _ hm;omega)
 replace kf10_1:=kf10_1.bR e f19 (by omega) (fun hm=>by have:=lo8 _ hm;omega)
 replace kf10_2:=kf10_2.bR e f19 (by omega) (fun hm=>by have:=lo8 _ hm;omega)
 replace kf10_3:=kf10_3.bR e f19 (by omega) (fun hm=>by have:=lo8 _ hm;omega)
 replace kf10_4:=kf10_4.bR e f19 (by omega) (fun hm=>by have:=lo8 _ hm;omega)
 replace kf10_5:=kf10_5.bR e f19 (by omega) (fun hm=>by have:=lo8 _ hm;omega)
 replace kf10_6:=kf10_6.bR e f19 (by omega) (fun hm=>by have:=lo8 _ hm;omega)
 replace kf10_7:=kf10_7.bR e f19 (by omega) (fun hm=>by have:=lo8 _ hm;omega)
 replace kx1_0:=kx1_0.bR e f19 (by omega) (fun hm=>by have:=lo8 _ hm;omega)
 replace kbg0_0:=kbg0_0.bR e f19 (by omega) (fun hm=>by have:=lo8 _ hm;omega)
 replace kbg0_1:=kbg0_1.bR e f19 (by omega) (fun hm=>by have:=lo8 _ hm;omega)
 replace kbg0_2:=kbg0_2.bR e f19 (by omega) (fun hm=>by have:=lo8 _ hm;omega)
 replace kbg0_3:=kbg0_3.bR e f19 (by omega) (fun hm=>by have:=lo8 _ hm;omega)
 replace kbg0_4:=kbg0_4.bR e f19 (by omega) (fun hm=>by have:=lo8 _ hm;omega)
 replace kbg0_5:=kbg0_5.bR e f19 (by omega) (fun hm=>by have:=lo8 _ hm;omega)
 replace kbg0_6:=kbg0_6.bR e f19 (by omega) (fun hm=>by have:=lo8 _ hm;omega)
 replace kbg0_7:=kbg0_7.bR e f19 (by omega) (fun hm=>by have:=lo8 _ hm;omega)
 replace ta0:=T1.bR (ta0.below e.h) f19 (fun y hy hm=>by have h1:=loa0 y hy;have h2:=lo8 y hm;omega)
 replace ta2:=T1.bR (ta2.below e.h) f19 (fun y hy hm=>by have h1:=loa2 y hy;have h2:=lo8 y hm;omega)
 replace ta1:=TN.bR (ta1.below e.h) f19 (fun y hy hm=>by have h1:=loa1 y hy;have h2:=lo8 y hm;omega)
 replace O6_0:=(O6_0.below e.h).bR f19
 replace T6_0:=TN.bR (T6_0.below e.h) f19 (fun y hy hm=>by have h1:=lo6_0 y hy;have h2:=lo8 y hm;omega)
 replace O9:=(O9.below e.h).bR f19
 replace T9:=T1.bR (T9.below e.h) f19 (fun y hy hm=>by have h1:=lo9 y hy;have h2:=lo8 y hm;omega)
 replace O10_0:=(O10_0.below e.h).bR f19
 replace T10_0:=TN.bR (T10_0.below e.h) f19 (fun y hy hm=>by have h1:=lo10_0 y hy;have h2:=lo8 y hm;omega)
 have hB19:Ext w W19:=Below.trans (Ext.trans hB18 e.h) (iZ.below f19 (Ext.trans hB18 e.h).size (fun y hm=>by have:=lo8 y hm;have:=(Ext.trans hB18 e.h).size;omega));obtain⟨e,he⟩:∃e:aK W19,W19=e.to:=⟨⟨W19,Below.refl _ _⟩,rfl⟩;rw[he];clear he;have bdkx1:kx1≤72057594037927936:=by have:=hkx1.out;omega
 go_wp2_with fail
 refine(mK a2 kx1 _ (T9.below e.h) (O9.below e.h) (by have:=T9.nJ;unfold maxLen;omega) (by omega) (by omega)).mono ?_;rintro _ W20 ⟨kx2,rfl,hkx2,M20,f20,V20⟩;have pkx2:0≤kx2:=by have:=hkx2.out;omega
 have hsW20:=f20.size;have hszW20:=e.h.size
 replace k1_0:=k1_0.bR e f20 (by omega) (fun hm=>by have:=lo9 _ hm;omega)
 replace kf10_0:=kf10_0.bR e f20 (by omega) (fun hm=>by have:=lo9 _ hm;omega)
 replace kf10_1:=kf10_1.bR e f20 (by omega) (fun hm=>by have:=lo9 _ hm;omega)
 replace kf10_2:=kf10_2.bR e f20 (by omega) (fun hm=>by have:=lo9 _ hm;omega)
 replace kf10_3:=kf10_3.bR e f20 (by omega) (fun hm=>by have:=lo9 _ hm;omega)
 replace kf10_4:=kf10_4.bR e f20 (by omega) (fun hm=>by have:=lo9 _ hm;omega)
 replace kf10_5:=kf10_5.bR e f20 (by omega) (fun hm=>by have:=lo9 _ hm;omega)
 replace kf10_6:=kf10_6.bR e f20 (by omega) (fun hm=>by have:=lo9 _ hm;omega)
 replace kf10_7:=kf10_7.bR e f20 (by omega) (fun hm=>by have:=lo9 _ hm;omega)
 replace kx1_0:=kx1_0.bR e f20 (by omega) (fun hm=>by have:=lo9 _ hm;omega)
 replace kbg0_0:=kbg0_0.bR e f20 (by omega) (fun hm=>by have:=lo9 _ hm;omega)
 replace kbg0_1:=kbg0_1.bR e f20 (by omega) (fun hm=>by have:=lo9 _ hm;omega)
 replace kbg0_2:=kbg0_2.bR e f20 (by omega) (fun hm=>by have:=lo9 _ hm;omega)
 replace kbg0_3:=kbg0_3.bR e f20 (by omega) (fun hm=>by have:=lo9 _ hm;omega)
 replace kbg0_4:=kbg0_4.bR e f20 (by omega) (fun hm=>by have:=lo9 _ hm;omega)
 replace kbg0_5:=kbg0_5.bR e f20 (by omega) (fun hm=>by have:=lo9 _ hm;omega)
 replace kbg0_6:=kbg0_6.bR e f20 (by omega) (fun hm=>by have:=lo9 _ hm;omega)
 replace kbg0_7:=kbg0_7.bR e f20 (by omega) (fun hm=>by have:=lo9 _ hm;omega)
 replace ta0:=T1.bR (ta0.below e.h) f20 (fun y hy hm=>by have h1:=loa0 y hy;have h2:=lo9 y hm;omega)
 replace ta2:=T1.bR (ta2.below e.h) f20 (fun y hy hm=>by have h1:=loa2 y hy;have h2:=lo9 y hm;omega)
 replace ta1:=TN.bR (ta1.below e.h) f20 (fun y hy hm=>by have h1:=loa1 y hy;have h2:=lo9 y hm;omega)
 replace O6_0:=(O6_0.below e.h).bR f20
 replace T6_0:=TN.bR (T6_0.below e.h) f20 (fun y hy hm=>by have h1:=lo6_0 y hy;have h2:=lo9 y hm;omega)
 replace O10_0:=(O10_0.below e.h).bR f20
 replace T10_0:=TN.bR (T10_0.below e.h) f20 (fun y hy hm=>by have h1:=lo10_0 y hy;have h2:=lo9 y hm;omega)
 have hB20:Ext w W20:=Below.trans (Ext.trans hB19 e.h) (iZ.below f20 (Ext.trans hB19 e.h).size (fun y hm=>by have:=lo9 y hm;have:=(Ext.trans hB19 e.h).size;omega));obtain⟨e,he⟩:∃e:aK W20,W20=e.to:=⟨⟨W20,Below.refl _ _⟩,rfl⟩;rw[he];clear he;have bdkx2:kx2≤108086391056891904:=by have:=hkx2.out;omega
 go_wp2_with fail
 refine(mF r0 r0 _ (T10_0.below e.h) (T6_0.below e.h)).mono ?_;rintro _ W21 ⟨rfl,z21⟩;have hq41:=Ext.trans e.h z21;have hs41:=hq41.size
 replace k1_0:=k1_0.ext hq41
 replace kf10_0:=kf10_0.ext hq41
 replace kf10_1:=kf10_1.ext hq41
 replace kf10_2:=kf10_2.ext hq41
 replace kf10_3:=kf10_3.ext hq41
 replace kf10_4:=kf10_4.ext hq41
 replace kf10_5:=kf10_5.ext hq41
 replace kf10_6:=kf10_6.ext hq41
 replace kf10_7:=kf10_7.ext hq41
 replace kx1_0:=kx1_0.ext hq41
 replace kbg0_0:=kbg0_0.ext hq41
 replace kbg0_1:=kbg0_1.ext hq41
 replace kbg0_2:=kbg0_2.ext hq41
 replace kbg0_3:=kbg0_3.ext hq41
 replace kbg0_4:=kbg0_4.ext hq41
 replace kbg0_5:=kbg0_5.ext hq41
 replace kbg0_6:=kbg0_6.ext hq41
 replace kbg0_7:=kbg0_7.ext hq41
 replace ta0:=ta0.below hq41
 replace ta2:=ta2.below hq41
 replace ta1:=ta1.below hq41
 replace T6_0:=T6_0.below hq41
 replace T10_0:=T10_0.below hq41
 replace O6_0:=O6_0.below hq41
 replace O10_0:=O10_0.below hq41
 have hy42:=Ext.trans hB20 hq41;obtain⟨e,he⟩:∃e:aK W21,W21=e.to:=⟨⟨W21,Below.refl _ _⟩,rfl⟩;rw[he];clear he
 go_wp2_with fail
 refine(wT r0 1 _ (T10_0.below e.h) (O10_0.below e.h) (by omega) (by omega)).mono ?_;rintro _ W22 ⟨mg0,rfl,hmg0,M22,f22,V22⟩;have pmg0:0≤mg0:=by have:=hmg0.out;omega
 have hsW22:=f22.size;have hszW22:=e.h.size
 replace k1_0:=k1_0.bR e f22 (by omega) (fun hm=>by have:=lo10_0 _ hm;omega)
 replace kf10_0:=kf10_0.bR e f22 (by omega) (fun hm=>by have:=lo10_0 _ hm;omega)
 replace kf10_1:=kf10_1.bR e f22 (by omega) (fun hm=>by have:=lo10_0 _ hm;omega)
 replace kf10_2:=kf10_2.bR e f22 (by omega) (fun hm=>by have:=lo10_0 _ hm;omega)
 replace kf10_3:=kf10_3.bR e f22 (by omega) (fun hm=>by have:=lo10_0 _ hm;omega)
 replace kf10_4:=kf10_4.bR e f22 (by omega) (fun hm=>by have:=lo10_0 _ hm;omega)
 replace kf10_5:=kf10_5.bR e f22 (by omega) (fun hm=>by have:=lo10_0 _ hm;omega)
 replace kf10_6:=kf10_6.bR e f22 (by omega) (fun hm=>by have:=lo10_0 _ hm;omega)
 replace kf10_7:=kf10_7.bR e f22 (by omega) (fun hm=>by have:=lo10_0 _ hm;omega)
 replace kx1_0:=kx1_0.bR e f22 (by omega) (fun hm=>by have:=lo10_0 _ hm;omega)
 replace kbg0_0:=kbg0_0.bR e f22 (by omega) (fun hm=>by have:=lo10_0 _ hm;omega)
 replace kbg0_1:=kbg0_1.bR e f22 (by omega) (fun hm=>by have:=lo10_0 _ hm;omega)
 replace kbg0_2:=kbg0_2.bR e f22 (by omega) (fun hm=>by have:=lo10_0 _ hm;omega)
 replace kbg0_3:=kbg0_3.bR e f22 (by omega) (fun hm=>by have:=lo10_0 _ hm;omega)
 replace kbg0_4:=kbg0_4.bR e f22 (by omega) (fun hm=>by have:=lo10_0 _ hm;omega)
 replace kbg0_5:=kbg0_5.bR e f22 (by omega) (fun hm=>by have:=lo10_0 _ hm;omega)
 replace kbg0_6:=kbg0_6.bR e f22 (by omega) (fun hm=>by have:=lo10_0 _ hm;omega)
 replace kbg0_7:=kbg0_7.bR e f22 (by omega) (fun hm=>by have:=lo10_0 _ hm;omega)
 replace ta0:=T1.bR (ta0.below e.h) f22 (fun y hy hm=>by have h1:=loa0 y hy;have h2:=lo10_0 y hm;omega)
 replace ta2:=T1.bR (ta2.below e.h) f22 (fun y hy hm=>by have h1:=loa2 y hy;have h2:=lo10_0 y hm;omega)
 replace ta1:=TN.bR (ta1.below e.h) f22 (fun y hy hm=>by have h1:=loa1 y hy;have h2:=lo10_0 y hm;omega)
 replace O6_0:=(O6_0.below e.h).bR f22
 replace T6_0:=TN.bR (T6_0.below e.h) f22 (fun y hy hm=>by have h1:=lo6_0 y hy;have h2:=lo10_0 y hm;omega)
 have hB22:Ext w W22:=Below.trans (Ext.trans hy42 e.h) (iZ.below f22 (Ext.trans hy42 e.h).size (fun y hm=>by have:=lo10_0 y hm;have:=(Ext.trans hy42 e.h).size;omega));obtain⟨e,he⟩:∃e:aK W22,W22=e.to:=⟨⟨W22,Below.refl _ _⟩,rfl⟩;rw[he];clear he;have bdmg0:mg0≤144115188075855872:=by have:=hmg0.out;omega
 have O10_0:=V22;have CH0:Hid (QC Tryz.prog W22 _ _ _):=fun W hW=>nU r0 1 mg0 W (TN.below M22 hW) (by omega) (by omega) hmg0
 go_wp2_with (first|(go_at_call 19;with_reducible refine(CH0.out.at_ _).mono ?_;rintro _ _ ⟨rfl,e,rfl⟩))
 clear CH0
 go_wp2_with fail
 refine x9 e (W22.heap.size) (by kernel_rfl) 14 (by kernel_rfl) (fun wR43 hxwR43=> ?_);have hs_wR43:=hxwR43.size
 replace k1_0:=k1_0.ext hxwR43
 replace kf10_0:=kf10_0.ext hxwR43
 replace kf10_1:=kf10_1.ext hxwR43
 replace kf10_2:=kf10_2.ext hxwR43
 replace kf10_3:=kf10_3.ext hxwR43
 replace kf10_4:=kf10_4.ext hxwR43
 replace kf10_5:=kf10_5.ext hxwR43
 replace kf10_6:=kf10_6.ext hxwR43
 replace kf10_7:=kf10_7.ext hxwR43
 replace kx1_0:=kx1_0.ext hxwR43
 replace kbg0_0:=kbg0_0.ext hxwR43
 replace kbg0_1:=kbg0_1.ext hxwR43
 replace kbg0_2:=kbg0_2.ext hxwR43
 replace kbg0_3:=kbg0_3.ext hxwR43
 replace kbg0_4:=kbg0_4.ext hxwR43
 replace kbg0_5:=kbg0_5.ext hxwR43
 replace kbg0_6:=kbg0_6.ext hxwR43
 replace kbg0_7:=kbg0_7.ext hxwR43
 replace ta0:=ta0.below hxwR43
 replace ta2:=ta2.below hxwR43
 replace ta1:=ta1.below hxwR43
 replace T6_0:=T6_0.below hxwR43
 replace M22:=M22.below hxwR43
 replace O6_0:=O6_0.below hxwR43
 replace O10_0:=O10_0.below hxwR43
 have hy44:=Ext.trans hB22 hxwR43;have B_k1_0:=k1_0.b (N:=W22.heap.size) (by omega);have B_kf10_0:=kf10_0.b (N:=W22.heap.size) (by omega);have B_kf10_1:=kf10_1.b (N:=W22.heap.size) (by omega);have B_kf10_2:=kf10_2.b (N:=W22.heap.size) (by omega);have B_kf10_3:=kf10_3.b (N:=W22.heap.size) (by omega);have B_kf10_4:=kf10_4.b (N:=W22.heap.size) (by omega);have B_kf10_5:=kf10_5.b (N:=W22.heap.size) (by omega);have B_kf10_6:=kf10_6.b (N:=W22.heap.size) (by omega);have B_kf10_7:=kf10_7.b (N:=W22.heap.size) (by omega);have B_kx1_0:=kx1_0.b (N:=W22.heap.size) (by omega)
 have B_kbg0_0:=kbg0_0.b (N:=W22.heap.size) (by omega);have B_kbg0_1:=kbg0_1.b (N:=W22.heap.size) (by omega);have B_kbg0_2:=kbg0_2.b (N:=W22.heap.size) (by omega);have B_kbg0_3:=kbg0_3.b (N:=W22.heap.size) (by omega);have B_kbg0_4:=kbg0_4.b (N:=W22.heap.size) (by omega);have B_kbg0_5:=kbg0_5.b (N:=W22.heap.size) (by omega);have B_kbg0_6:=kbg0_6.b (N:=W22.heap.size) (by omega);have B_kbg0_7:=kbg0_7.b (N:=W22.heap.size) (by omega);refine D8 ⟨11,20,fun g=>.pointer (some ⟨g,0,none⟩),.cells #[.slice none 0 0,.slice none 0 0,.int .i64 0,.int .i64 0,.slice none 0 0,.slice none 0 0,.slice none 0 0,.slice none 0 0] 37⟩ ⟨⟨_,rfl,rfl⟩,fun K a w h=>mU rfl (by go_wp2_with fail;exact h)⟩ (fun hfl=> ?_)
 refine iL 0 rfl (by omega) hfl (by kernel_rfl) ?_;go_big_quiet_step (fail);refine wpQuiet_nil ?_;refine iL 2 rfl (by omega) hfl (by kernel_rfl) ?_;go_big_quiet_step (fail);refine wpQuiet_nil ?_;refine iL 4 rfl (by omega) hfl (by kernel_rfl) ?_;go_big_quiet_step (fail);refine wpQuiet_nil ?_;refine iL 6 rfl (by omega) hfl (by kernel_rfl) ?_;go_big_quiet_step (fail);refine wpQuiet_nil ?_;refine ng 1 rfl (by omega) (fun x hx=>by simp at hx) hfl (by kernel_rfl) (fun e=> ?_)
 go_wp2_with fail
 refine(pJ a0 _ (ta0.below e.h) SM0.out).mono ?_;rintro _ W23 ⟨B23,D23,q23,rfl,z23,T23,O23⟩;have lo23:∀b∈q23,e.to.heap.size≤b∧b<W23.heap.size:=fun b hb=>⟨(O23.2 b hb).1,T23.lt b hb⟩
 have sz23:=e.h.size;have sw23:=(Ext.trans hy44 e.h).size
 go_wp2_with fail
 refine aI z23 ⟨q23,lo23,?_⟩;have hq45:=Ext.trans e.h z23;have hs45:=hq45.size
 replace k1_0:=k1_0.ext hq45
 replace kf10_0:=kf10_0.ext hq45
 replace kf10_1:=kf10_1.ext hq45
 replace kf10_2:=kf10_2.ext hq45
 replace kf10_3:=kf10_3.ext hq45
 replace kf10_4:=kf10_4.ext hq45
 replace kf10_5:=kf10_5.ext hq45
 replace kf10_6:=kf10_6.ext hq45
 replace kf10_7:=kf10_7.ext hq45
 replace kx1_0:=kx1_0.ext hq45
 replace kbg0_0:=kbg0_0.ext hq45
 replace kbg0_1:=kbg0_1.ext hq45
 replace kbg0_2:=kbg0_2.ext hq45
 replace kbg0_3:=kbg0_3.ext hq45
 replace kbg0_4:=kbg0_4.ext hq45
 replace kbg0_5:=kbg0_5.ext hq45
 replace kbg0_6:=kbg0_6.ext hq45
 replace kbg0_7:=kbg0_7.ext hq45
 replace ta0:=ta0.below hq45
 replace ta2:=ta2.below hq45
 replace ta1:=ta1.below hq45
 replace T6_0:=T6_0.below hq45
 replace M22:=M22.below hq45
 replace O6_0:=O6_0.below hq45
 replace O10_0:=O10_0.below hq45
 have hy46:=Ext.trans hy44 hq45
 replace B_k1_0:=B_k1_0.go (hq45.mono (by omega))
 replace B_kf10_0:=B_kf10_0.go (hq45.mono (by omega))
 replace B_kf10_1:=B_kf10_1.go (hq45.mono (by omega))
 replace B_kf10_2:=B_kf10_2.go (hq45.mono (by omega))
 replace B_kf10_3:=B_kf10_3.go (hq45.mono (by omega))
 replace B_kf10_4:=B_kf10_4.go (hq45.mono (by omega))
 replace B_kf10_5:=B_kf10_5.go (hq45.mono (by omega))
 replace B_kf10_6:=B_kf10_6.go (hq45.mono (by omega))
 replace B_kf10_7:=B_kf10_7.go (hq45.mono (by omega))
 replace B_kx1_0:=B_kx1_0.go (hq45.mono (by omega))
 replace B_kbg0_0:=B_kbg0_0.go (hq45.mono (by omega))
 replace B_kbg0_1:=B_kbg0_1.go (hq45.mono (by omega))
 replace B_kbg0_2:=B_kbg0_2.go (hq45.mono (by omega))
 replace B_kbg0_3:=B_kbg0_3.go (hq45.mono (by omega))
 replace B_kbg0_4:=B_kbg0_4.go (hq45.mono (by omega))
 replace B_kbg0_5:=B_kbg0_5.go (hq45.mono (by omega))
 replace B_kbg0_6:=B_kbg0_6.go (hq45.mono (by omega))
 replace B_kbg0_7:=B_kbg0_7.go (hq45.mono (by omega))
 refine ng 3 rfl (by omega) (fun x hx=>by simp only[qT,List.mem_cons,List.not_mem_nil,or_false,false_or,qS,or_assoc]at hx;have h1:=lo23 x hx;omega) hfl (by kernel_rfl) (fun e=> ?_)
 go_wp2_with fail
 refine(oF a1 _ (ta1.below e.h) SM1.out).mono ?_;rintro _ W24 ⟨_,q24,rfl,z24,T24,O24⟩;obtain⟨_,_,_,rfl, -⟩:=aG.us T24;have lo24:∀b∈q24,e.to.heap.size≤b∧b<W24.heap.size:=fun b hb=>⟨(O24.2 b hb).1,T24.lt b hb⟩
 have sz24:=e.h.size;have sw24:=(Ext.trans hy46 e.h).size
 go_wp2_with fail
 refine aI z24 ⟨q24,lo24,?_⟩;have hq47:=Ext.trans e.h z24;have hs47:=hq47.size
 replace k1_0:=k1_0.ext hq47
 replace kf10_0:=kf10_0.ext hq47
 replace kf10_1:=kf10_1.ext hq47
 replace kf10_2:=kf10_2.ext hq47
 replace kf10_3:=kf10_3.ext hq47
 replace kf10_4:=kf10_4.ext hq47
 replace kf10_5:=kf10_5.ext hq47
 replace kf10_6:=kf10_6.ext hq47
 replace kf10_7:=kf10_7.ext hq47
 replace kx1_0:=kx1_0.ext hq47
 replace kbg0_0:=kbg0_0.ext hq47
 replace kbg0_1:=kbg0_1.ext hq47
 replace kbg0_2:=kbg0_2.ext hq47
 replace kbg0_3:=kbg0_3.ext hq47
 replace kbg0_4:=kbg0_4.ext hq47
 replace kbg0_5:=kbg0_5.ext hq47
 replace kbg0_6:=kbg0_6.ext hq47
 replace kbg0_7:=kbg0_7.ext hq47
 replace ta0:=ta0.below hq47
 replace ta2:=ta2.below hq47
 replace ta1:=ta1.below hq47
 replace T6_0:=T6_0.below hq47
 replace M22:=M22.below hq47
 replace T23:=T23.below hq47
 replace O6_0:=O6_0.below hq47
 replace O10_0:=O10_0.below hq47
 replace O23:=O23.below hq47
 have hy48:=Ext.trans hy46 hq47
 replace B_k1_0:=B_k1_0.go (hq47.mono (by omega))
 replace B_kf10_0:=B_kf10_0.go (hq47.mono (by omega))
 replace B_kf10_1:=B_kf10_1.go (hq47.mono (by omega))
 replace B_kf10_2:=B_kf10_2.go (hq47.mono (by omega))
 replace B_kf10_3:=B_kf10_3.go (hq47.mono (by omega))
 replace B_kf10_4:=B_kf10_4.go (hq47.mono (by omega))
 replace B_kf10_5:=B_kf10_5.go (hq47.mono (by omega))
 replace B_kf10_6:=B_kf10_6.go (hq47.mono (by omega))
 replace B_kf10_7:=B_kf10_7.go (hq47.mono (by omega))
 replace B_kx1_0:=B_kx1_0.go (hq47.mono (by omega))
 replace B_kbg0_0:=B_kbg0_0.go (hq47.mono (by omega))
 replace B_kbg0_1:=B_kbg0_1.go (hq47.mono (by omega))
 replace B_kbg0_2:=B_kbg0_2.go (hq47.mono (by omega))
 replace B_kbg0_3:=B_kbg0_3.go (hq47.mono (by omega))
 replace B_kbg0_4:=B_kbg0_4.go (hq47.mono (by omega))
 replace B_kbg0_5:=B_kbg0_5.go (hq47.mono (by omega))
 replace B_kbg0_6:=B_kbg0_6.go (hq47.mono (by omega))
 replace B_kbg0_7:=B_kbg0_7.go (hq47.mono (by omega))
 refine ng 5 rfl (by omega) (fun x hx=>by simp only[qT,List.mem_cons,List.not_mem_nil,or_false,false_or,qS,or_assoc]at hx;rcases hx with hx|hx<;>first|(have h1:=lo24 x hx;omega)|(have h1:=lo23 x hx;omega)) hfl (by kernel_rfl) (fun e=> ?_)
 go_wp2_with fail
 refine(kC a2 _ (ta2.below e.h) hsl2).mono ?_;rintro _ W25 ⟨B25,D25,q25,rfl,z25,T25,O25⟩;have lo25:∀b∈q25,e.to.heap.size≤b∧b<W25.heap.size:=fun b hb=>⟨(O25.2 b hb).1,T25.lt b hb⟩
 have sz25:=e.h.size;have sw25:=(Ext.trans hy48 e.h).size
 go_wp2_with fail
 refine aI z25 ⟨q25,lo25,?_⟩;have hq49:=Ext.trans e.h z25;have hs49:=hq49.size
 replace k1_0:=k1_0.ext hq49
 replace kf10_0:=kf10_0.ext hq49
 replace kf10_1:=kf10_1.ext hq49
 replace kf10_2:=kf10_2.ext hq49
 replace kf10_3:=kf10_3.ext hq49
 replace kf10_4:=kf10_4.ext hq49
 replace kf10_5:=kf10_5.ext hq49
 replace kf10_6:=kf10_6.ext hq49
 replace kf10_7:=kf10_7.ext hq49
 replace kx1_0:=kx1_0.ext hq49
 replace kbg0_0:=kbg0_0.ext hq49
 replace kbg0_1:=kbg0_1.ext hq49
 replace kbg0_2:=kbg0_2.ext hq49
 replace kbg0_3:=kbg0_3.ext hq49
 replace kbg0_4:=kbg0_4.ext hq49
 replace kbg0_5:=kbg0_5.ext hq49
 replace kbg0_6:=kbg0_6.ext hq49
 replace kbg0_7:=kbg0_7.ext hq49
 replace ta0:=ta0.below hq49
 replace ta2:=ta2.below hq49
 replace ta1:=ta1.below hq49
 replace T6_0:=T6_0.below hq49
 replace M22:=M22.below hq49
 replace T23:=T23.below hq49
 replace T24:=T24.below hq49
 replace O6_0:=O6_0.below hq49
 replace O10_0:=O10_0.below hq49
 replace O23:=O23.below hq49
 replace O24:=O24.below hq49
 have hy50:=Ext.trans hy48 hq49
 replace B_k1_0:=B_k1_0.go (hq49.mono (by omega))
 replace B_kf10_0:=B_kf10_0.go (hq49.mono (by omega))
 replace B_kf10_1:=B_kf10_1.go (hq49.mono (by omega))
 replace B_kf10_2:=B_kf10_2.go (hq49.mono (by omega))
 replace B_kf10_3:=B_kf10_3.go (hq49.mono (by omega))
 replace B_kf10_4:=B_kf10_4.go (hq49.mono (by omega))
 replace B_kf10_5:=B_kf10_5.go (hq49.mono (by omega))
 replace B_kf10_6:=B_kf10_6.go (hq49.mono (by omega))
 replace B_kf10_7:=B_kf10_7.go (hq49.mono (by omega))
 replace B_kx1_0:=B_kx1_0.go (hq49.mono (by omega))
 replace B_kbg0_0:=B_kbg0_0.go (hq49.mono (by omega))
 replace B_kbg0_1:=B_kbg0_1.go (hq49.mono (by omega))
 replace B_kbg0_2:=B_kbg0_2.go (hq49.mono (by omega))
 replace B_kbg0_3:=B_kbg0_3.go (hq49.mono (by omega))
 replace B_kbg0_4:=B_kbg0_4.go (hq49.mono (by omega))
 replace B_kbg0_5:=B_kbg0_5.go (hq49.mono (by omega))
 replace B_kbg0_6:=B_kbg0_6.go (hq49.mono (by omega))
 replace B_kbg0_7:=B_kbg0_7.go (hq49.mono (by omega))
 refine ng 7 rfl (by omega) (fun x hx=>by simp only[qT,List.mem_cons,List.not_mem_nil,or_false,false_or,qS,or_assoc]at hx;rcases hx with hx|hx|hx<;>first|(have h1:=lo25 x hx;omega)|(have h1:=lo24 x hx;omega)|(have h1:=lo23 x hx;omega)) hfl (by kernel_rfl) (fun e=> ?_)
 go_wp2_with fail
 refine(nX a0 a1 a2 a3 r0 r1 hR _ (T23.below e.h) (T24.below e.h) (T25.below e.h)).mono ?_;rintro _ W26 ⟨_,q26_0,rfl,z26,T26_0,O26⟩;obtain⟨A26_0_0,c26_0_0,_,A26_0_1,c26_0_1,_,A26_0_4,c26_0_4,_,A26_0_5,c26_0_5,_,A26_0_6,c26_0_6,_,A26_0_7,c26_0_7,_,rfl, -⟩:=aL.us T26_0;have O26_0:=O26;have lo26_0:∀b∈q26_0,e.to.heap.size≤b∧b<W26.heap.size:=fun b hb=>⟨(O26_0.2 b hb).1,T26_0.lt b hb⟩
 have sz26:=e.h.size;have sw26:=(Ext.trans hy50 e.h).size
 go_wp2_with fail
 refine aI z26 ⟨q26_0,lo26_0,?_⟩;have hq51:=Ext.trans e.h z26;have hs51:=hq51.size
 replace k1_0:=k1_0.ext hq51
 replace kf10_0:=kf10_0.ext hq51
 replace kf10_1:=kf10_1.ext hq51
 replace kf10_2:=kf10_2.ext hq51
 replace kf10_3:=kf10_3.ext hq51
 replace kf10_4:=kf10_4.ext hq51
 replace kf10_5:=kf10_5.ext hq51
 replace kf10_6:=kf10_6.ext hq51
 replace kf10_7:=kf10_7.ext hq51
 replace kx1_0:=kx1_0.ext hq51
 replace kbg0_0:=kbg0_0.ext hq51
 replace kbg0_1:=kbg0_1.ext hq51
 replace kbg0_2:=kbg0_2.ext hq51
 replace kbg0_3:=kbg0_3.ext hq51
 replace kbg0_4:=kbg0_4.ext hq51
 replace kbg0_5:=kbg0_5.ext hq51
 replace kbg0_6:=kbg0_6.ext hq51
 replace kbg0_7:=kbg0_7.ext hq51
 replace ta0:=ta0.below hq51
 replace ta2:=ta2.below hq51
 replace ta1:=ta1.below hq51
 replace T6_0:=T6_0.below hq51
 replace M22:=M22.below hq51
 replace T23:=T23.below hq51
 replace T24:=T24.below hq51
 replace T25:=T25.below hq51
 replace O6_0:=O6_0.below hq51
 replace O10_0:=O10_0.below hq51
 replace O23:=O23.below hq51
 replace O24:=O24.below hq51
 replace O25:=O25.below hq51
 have hy52:=Ext.trans hy50 hq51
 replace B_k1_0:=B_k1_0.go (hq51.mono (by omega))
 replace B_kf10_0:=B_kf10_0.go (hq51.mono (by omega))
 replace B_kf10_1:=B_kf10_1.go (hq51.mono (by omega))
 replace B_kf10_2:=B_kf10_2.go (hq51.mono (by omega))
 replace B_kf10_3:=B_kf10_3.go (hq51.mono (by omega))
 replace B_kf10_4:=B_kf10_4.go (hq51.mono (by omega))
 replace B_kf10_5:=B_kf10_5.go (hq51.mono (by omega))
 replace B_kf10_6:=B_kf10_6.go (hq51.mono (by omega))
 replace B_kf10_7:=B_kf10_7.go (hq51.mono (by omega))
 replace B_kx1_0:=B_kx1_0.go (hq51.mono (by omega))
 replace B_kbg0_0:=B_kbg0_0.go (hq51.mono (by omega))
 replace B_kbg0_1:=B_kbg0_1.go (hq51.mono (by omega))
 replace B_kbg0_2:=B_kbg0_2.go (hq51.mono (by omega))
 replace B_kbg0_3:=B_kbg0_3.go (hq51.mono (by omega))
 replace B_kbg0_4:=B_kbg0_4.go (hq51.mono (by omega))
 replace B_kbg0_5:=B_kbg0_5.go (hq51.mono (by omega))
 replace B_kbg0_6:=B_kbg0_6.go (hq51.mono (by omega))
 replace B_kbg0_7:=B_kbg0_7.go (hq51.mono (by omega))
 refine iL 8 rfl (by omega) hfl (by kernel_rfl) ?_;go_big_quiet_step (fail);refine wpQuiet_nil ?_;refine iL 9 rfl (by omega) hfl (by kernel_rfl) ?_;go_big_quiet_step (fail);refine wpQuiet_nil ?_;refine iL 10 rfl (by omega) hfl (by kernel_rfl) ?_;go_big_quiet_step (fail);refine wpQuiet_nil ?_;refine Hw (by omega) (fun x hx=>by simp only[qT,List.mem_cons,List.not_mem_nil,or_false,false_or,qS,or_assoc]at hx;rcases hx with hx|hx|hx|hx<;>first|(have h1:=lo26_0 x hx;omega)|(have h1:=lo25 x hx;omega)|(have h1:=lo24 x hx;omega)|(have h1:=lo23 x hx;omega)) hfl (by kernel_rfl) (fun gf37 wL37 hxwL37 hgegf37 hnxgf37 rowgf37=> ?_)
 have hn_gf37_0:∀y∈q26_0,y≠gf37:=fun y hy h=>hnxgf37 (by simp[←h,hy])
 clear hnxgf37 hfl;have hltgf37:=dW rowgf37;have hs_wL37:=hxwL37.size;have fgf37:=Lf rowgf37;have cgf37_0:=dz rowgf37 0 (v:=.slice none 0 0) rfl;have cgf37_1:=dz rowgf37 1 (v:=.slice none 0 0) rfl;have cgf37_2:=dz rowgf37 2 (v:=.int .i64 0) rfl;have cgf37_3:=dz rowgf37 3 (v:=.int .i64 0) rfl;have cgf37_4:=dz rowgf37 4 (v:=.slice none 0 0) rfl;have cgf37_5:=dz rowgf37 5 (v:=.slice none 0 0) rfl;have cgf37_6:=dz rowgf37 6 (v:=.slice none 0 0) rfl;have cgf37_7:=dz rowgf37 7 (v:=.slice none 0 0) rfl;clear B_k1_0 B_kf10_0 B_kf10_1 B_kf10_2 B_kf10_3 B_kf10_4 B_kf10_5 B_kf10_6 B_kf10_7 B_kx1_0 B_kbg0_0 B_kbg0_1 B_kbg0_2 B_kbg0_3 B_kbg0_4 B_kbg0_5 B_kbg0_6 B_kbg0_7
 replace k1_0:=k1_0.ext hxwL37
 replace kf10_0:=kf10_0.ext hxwL37
 replace kf10_1:=kf10_1.ext hxwL37
 replace kf10_2:=kf10_2.ext hxwL37
 replace kf10_3:=kf10_3.ext hxwL37
 replace kf10_4:=kf10_4.ext hxwL37
 replace kf10_5:=kf10_5.ext hxwL37
 replace kf10_6:=kf10_6.ext hxwL37
 replace kf10_7:=kf10_7.ext hxwL37
 replace kx1_0:=kx1_0.ext hxwL37
 replace kbg0_0:=kbg0_0.ext hxwL37
 replace kbg0_1:=kbg0_1.ext hxwL37
 replace kbg0_2:=kbg0_2.ext hxwL37
 replace kbg0_3:=kbg0_3.ext hxwL37
 replace kbg0_4:=kbg0_4.ext hxwL37
 replace kbg0_5:=kbg0_5.ext hxwL37
 replace kbg0_6:=kbg0_6.ext hxwL37
 replace kbg0_7:=kbg0_7.ext hxwL37
 replace ta0:=ta0.below hxwL37
 replace ta2:=ta2.below hxwL37
 replace ta1:=ta1.below hxwL37
 replace T6_0:=T6_0.below hxwL37
 replace M22:=M22.below hxwL37
 replace T26_0:=T26_0.below hxwL37
 replace O6_0:=O6_0.below hxwL37
 replace O10_0:=O10_0.below hxwL37
 replace O26_0:=O26_0.below hxwL37
 have hy53:=Ext.trans hy52 hxwL37;refine JW 12 rfl (by kernel_rfl) (fun e he=> ?_);clear he
 go_wp2_with fail
 generalize hW:World.setCell (World.setCell (World.setCell (World.setCell (World.setCell (World.setCell (World.setCell (World.setCell e.to ⟨gf37,0,none⟩ (.slice A26_0_0 r0.book.length c26_0_0)) ⟨gf37,1,none⟩ (.slice A26_0_1 r0.schedule.length c26_0_1)) ⟨gf37,2,none⟩ (.int .i64 r0.every)) ⟨gf37,3,none⟩ (.int .i64 r0.at_)) ⟨gf37,4,none⟩ (.slice A26_0_4 r0.net.agents.length c26_0_4)) ⟨gf37,5,none⟩ (.slice A26_0_5 r0.origins.length c26_0_5)) ⟨gf37,6,none⟩ (.slice A26_0_6 r0.breaks.length c26_0_6)) ⟨gf37,7,none⟩ (.slice A26_0_7 r0.points.length c26_0_7)=wS37;have hbwS37:mX [gf37] e.to wS37:=by rw[←hW];exact iZ.gG (((((((((iZ.refl _ _).setCell (by simp) _ _).setCell (by simp) _ _).setCell (by simp) _ _).setCell (by simp) _ _).setCell (by simp) _ _).setCell (by simp) _ _).setCell (by simp) _ _).setCell (by simp) _ _)
 have nrgf37:wS37.heap[gf37]? =some (.cells #[.slice A26_0_0 r0.book.length c26_0_0,.slice A26_0_1 r0.schedule.length c26_0_1,.int .i64 r0.every,.int .i64 r0.at_,.slice A26_0_4 r0.net.agents.length c26_0_4,.slice A26_0_5 r0.origins.length c26_0_5,.slice A26_0_6 r0.breaks.length c26_0_6,.slice A26_0_7 r0.points.length c26_0_7] 37 (0,0)):=by rw[←hW];exact(Rows.aV (Rows.aV (Rows.aV (Rows.aV (Rows.aV (Rows.aV (Rows.aV (Rows.aV (C9 rowgf37 e)))))))))
 clear hW;refine aI (mX.below hbwS37 (by have:=e.h.size;omega) (fun y hm=>by simp at hm;omega)) ?_;have hs_wS37:=Nat.le_trans e.h.size hbwS37.size
 replace k1_0:=k1_0.gG e hbwS37 (by omega) (fun hm=>by simp at hm;omega)
 replace kf10_0:=kf10_0.gG e hbwS37 (by omega) (fun hm=>by simp at hm;omega)
 replace kf10_1:=kf10_1.gG e hbwS37 (by omega) (fun hm=>by simp at hm;omega)
 replace kf10_2:=kf10_2.gG e hbwS37 (by omega) (fun hm=>by simp at hm;omega)
 replace kf10_3:=kf10_3.gG e hbwS37 (by omega) (fun hm=>by simp at hm;omega)
 replace kf10_4:=kf10_4.gG e hbwS37 (by omega) (fun hm=>by simp at hm;omega)
 replace kf10_5:=kf10_5.gG e hbwS37 (by omega) (fun hm=>by simp at hm;omega)
 replace kf10_6:=kf10_6.gG e hbwS37 (by omega) (fun hm=>by simp at hm;omega)
 replace kf10_7:=kf10_7.gG e hbwS37 (by omega) (fun hm=>by simp at hm;omega)
 replace kx1_0:=kx1_0.gG e hbwS37 (by omega) (fun hm=>by simp at hm;omega)
 replace kbg0_0:=kbg0_0.gG e hbwS37 (by omega) (fun hm=>by simp at hm;omega)
 replace kbg0_1:=kbg0_1.gG e hbwS37 (by omega) (fun hm=>by simp at hm;omega)
 replace kbg0_2:=kbg0_2.gG e hbwS37 (by omega) (fun hm=>by simp at hm;omega)
 replace kbg0_3:=kbg0_3.gG e hbwS37 (by omega) (fun hm=>by simp at hm;omega)
 replace kbg0_4:=kbg0_4.gG e hbwS37 (by omega) (fun hm=>by simp at hm;omega)
 replace kbg0_5:=kbg0_5.gG e hbwS37 (by omega) (fun hm=>by simp at hm;omega)
 replace kbg0_6:=kbg0_6.gG e hbwS37 (by omega) (fun hm=>by simp at hm;omega)
 replace kbg0_7:=kbg0_7.gG e hbwS37 (by omega) (fun hm=>by simp at hm;omega)
 replace ta0:=(ta0.below e.h).gG hbwS37 (fun y hy hm=>by have h1:=loa0 y hy;simp at hm;omega)
 replace ta2:=(ta2.below e.h).gG hbwS37 (fun y hy hm=>by have h1:=loa2 y hy;simp at hm;omega)
 replace ta1:=(ta1.below e.h).gG hbwS37 (fun y hy hm=>by have h1:=loa1 y hy;simp at hm;omega)
 replace T6_0:=(T6_0.below e.h).gG hbwS37 (fun y hy hm=>by have h1:=lo6_0 y hy;simp at hm;omega)
 replace O6_0:=(O6_0.below e.h).gG hbwS37 (fun y hy hm=>by have h1:=lo6_0 y hy;simp at hm;omega)
 replace M22:=(M22.below e.h).gG hbwS37 (fun y hy hm=>by have h1:=lo10_0 y hy;simp at hm;omega)
 replace O10_0:=(O10_0.below e.h).gG hbwS37 (fun y hy hm=>by have h1:=lo10_0 y hy;simp at hm;omega)
 replace T26_0:=(T26_0.below e.h).gG hbwS37 (fun y hy hm=>by have h1:=lo26_0 y hy;have h2:=hn_gf37_0 y hy;simp at hm;omega)
 replace O26_0:=(O26_0.below e.h).gG hbwS37 (fun y hy hm=>by have h1:=lo26_0 y hy;have h2:=hn_gf37_0 y hy;simp at hm;omega)
 have hy_wS37:Ext w wS37:=Below.trans (Ext.trans hy53 e.h) (mX.below hbwS37 (B:=w.heap.size) ((Ext.trans hy53 e.h)).size (fun y hm=>by simp at hm;omega));have kf37_0:=dz nrgf37 0 (v:=.slice A26_0_0 r0.book.length c26_0_0) rfl;have kf37_1:=dz nrgf37 1 (v:=.slice A26_0_1 r0.schedule.length c26_0_1) rfl;have kf37_2:=dz nrgf37 2 (v:=.int .i64 r0.every) rfl;have kf37_3:=dz nrgf37 3 (v:=.int .i64 r0.at_) rfl;have kf37_4:=dz nrgf37 4 (v:=.slice A26_0_4 r0.net.agents.length c26_0_4) rfl;have kf37_5:=dz nrgf37 5 (v:=.slice A26_0_5 r0.origins.length c26_0_5) rfl
 have kf37_6:=dz nrgf37 6 (v:=.slice A26_0_6 r0.breaks.length c26_0_6) rfl;have kf37_7:=dz nrgf37 7 (v:=.slice A26_0_7 r0.points.length c26_0_7) rfl;clear fgf37 rowgf37 nrgf37 cgf37_0 cgf37_1 cgf37_2 cgf37_3 cgf37_4 cgf37_5 cgf37_6 cgf37_7;refine JX 13 rfl (by kernel_rfl) ?_;go_big_quiet_step (fail);refine wpQuiet_nil ?_;refine JU (by kernel_rfl) (fun e he=> ?_);clear he
 go_wp2_with fail
 refine(mF r0 r0 _ (T26_0.below e.h) (T6_0.below e.h)).mono ?_;rintro _ W27 ⟨rfl,z27⟩;have hq54:=Ext.trans e.h z27;have hs54:=hq54.size
 replace k1_0:=k1_0.ext hq54
 replace kf10_0:=kf10_0.ext hq54
 replace kf10_1:=kf10_1.ext hq54
 replace kf10_2:=kf10_2.ext hq54
 replace kf10_3:=kf10_3.ext hq54
 replace kf10_4:=kf10_4.ext hq54
 replace kf10_5:=kf10_5.ext hq54
 replace kf10_6:=kf10_6.ext hq54
 replace kf10_7:=kf10_7.ext hq54
 replace kx1_0:=kx1_0.ext hq54
 replace kbg0_0:=kbg0_0.ext hq54
 replace kbg0_1:=kbg0_1.ext hq54
 replace kbg0_2:=kbg0_2.ext hq54
 replace kbg0_3:=kbg0_3.ext hq54
 replace kbg0_4:=kbg0_4.ext hq54
 replace kbg0_5:=kbg0_5.ext hq54
 replace kbg0_6:=kbg0_6.ext hq54
 replace kbg0_7:=kbg0_7.ext hq54
 replace kf37_0:=kf37_0.ext hq54
 replace kf37_1:=kf37_1.ext hq54
 replace kf37_2:=kf37_2.ext hq54
 replace kf37_3:=kf37_3.ext hq54
 replace kf37_4:=kf37_4.ext hq54
 replace kf37_5:=kf37_5.ext hq54
 replace kf37_6:=kf37_6.ext hq54
 replace kf37_7:=kf37_7.ext hq54
 replace ta0:=ta0.below hq54
 replace ta2:=ta2.below hq54
 replace ta1:=ta1.below hq54
 replace T6_0:=T6_0.below hq54
 replace M22:=M22.below hq54
 replace T26_0:=T26_0.below hq54
 replace O6_0:=O6_0.below hq54
 replace O10_0:=O10_0.below hq54
 replace O26_0:=O26_0.below hq54
 have hy55:=Ext.trans hy_wS37 hq54;obtain⟨e,he⟩:∃e:aK W27,W27=e.to:=⟨⟨W27,Below.refl _ _⟩,rfl⟩;rw[he];clear he;have CH0:Hid (QC Tryz.prog W27 _ _ _):=fun W hW=>nU r0 1 mg0 W (TN.below M22 hW) (by omega) (by omega) hmg0
 go_wp2_with (first|(go_at_call 19;with_reducible refine(CH0.out.at_ _).mono ?_;rintro _ _ ⟨rfl,e,rfl⟩))
 clear CH0
 go_wp2_with fail
 go_ret;exact⟨rfl,aK.old hy55 e⟩
end Go.Proofs.YtjpaeopdljfjpaaGreat
