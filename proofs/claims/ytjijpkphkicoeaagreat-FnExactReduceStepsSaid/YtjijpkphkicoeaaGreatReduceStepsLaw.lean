
/- The law FnExactReduceSteps, walked. Printed by gen_law.py. -/
import Derived.Test.YtjijpkphkicoeaaGreatShort
import Derived.Test.YtjijpkphkicoeaaGreatProg
import Derived.Test.YtjijpkphkicoeaaGreatReduceStepsBoth
import Derived.Test.YtjijpkphkicoeaaGreatKDbg
import Derived.Test.YtjijpkphkicoeaaGreatZDbg
import Derived.Test.YtjijpkphkicoeaaGreatSc
import Derived.Test.YtjijpkphkicoeaaGreatFl
import Derived.BigGuardPart
import Derived.Outline
import Derived.Deep.CutBlock
set_option linter.unusedSimpArgs false
set_option linter.unusedVariables false
namespace Go.Proofs.YtjijpkphkicoeaaGreat
open Go Go.RowKit Go.Proofs Go.Tr
set_option maxRecDepth 100000 in
set_option maxHeartbeats 16000000 in
theorem zM(a0:(List GNet)){A0:Option Addr}{c0:Nat}{p0:List Nat}(a1:GNet){p1:List Nat}{u1:List Value}(a2:(List Int)){A2:Option Addr}{c2:Nat}{p2:List Nat}(a3:Int)(w:World)(ta0:T1 w (.sl a0.length (a0.flatMap GNet.enc)) p0 (.slice A0 a0.length c0))(ta1:TN w a1.enc p1 u1)(ta2:T1 w (.sl a2.length (a2.flatMap intE)) p2 (.slice A2 a2.length c2)):Calls Tryz.prog 8 #[.slice A0 a0.length c0,.agg u1.toArray,.slice A2 a2.length c2,.int .i64 a3] w fun e w'=>e=.returned (.bool (true))∧Ext w w':=by
 refine quiet_start fun e=> ?_
 obtain⟨⟨r0,r1,r2⟩,hR0⟩:∃R,R=lg a0 a1 a2 a3:=⟨_,rfl⟩;have hR:=Lib.hid hR0;clear hR0;obtain⟨_,_,_,rfl, -⟩:=GNet.us (x:=a1) ta1;have loa1:∀b∈p1,0≤b∧b<w.heap.size:=fun b hb=>⟨Nat.zero_le _,ta1.lt b hb⟩
 have loa0:∀b∈p0,0≤b∧b<w.heap.size:=fun b hb=>⟨Nat.zero_le _,ta0.lt b hb⟩
 have loa2:∀b∈p2,0≤b∧b<w.heap.size:=fun b hb=>⟨Nat.zero_le _,ta2.lt b hb⟩
 have hna0:=ta0.nle;have hna2:=ta2.nle;have el2:=Lib.hid (rfl:a2.length=a2.length)
 go_enter Tryz.func8,Tryz.ntmps8
 go_upto_region 1 with(fail)
 generalize hgg1:e.to.heap.size=g1;refine rebase_box e hgg1 (fun w1 e hx1 hgeg1 hltg1 cg1=> ?_);clear hgg1
 replace ta0:=ta0.below hx1
 replace ta2:=ta2.below hx1
 replace ta1:=ta1.below hx1
 have k1_0:=cg1.always hltg1 0 _ rfl;simp only[Nat.zero_add]at k1_0;clear cg1
 by_cases hsl2:1048576<a2.length
 case pos=>
  go_wp2_with fail
  go_ret;exact⟨rfl,ExtOf.old hx1 e⟩
 replace hsl2:a2.length≤1048576:=by omega
 go_wp2_with fail
 refine(szNetS_any a0 1048576 _ (ta0.below e.h) (by unfold maxLen;omega) (by omega) (by omega)).mono ?_;rintro _ W1 ⟨z1,L0,rfl,hr0⟩;have hq2:=Ext.trans e.h z1;have hs2:=hq2.size
 replace k1_0:=k1_0.ext hq2
 replace ta0:=ta0.below hq2
 replace ta2:=ta2.below hq2
 replace ta1:=ta1.below hq2
 have hy3:=Ext.trans hx1 hq2;obtain⟨e,he⟩:∃e:ExtOf W1,W1=e.to:=⟨⟨W1,Below.refl _ _⟩,rfl⟩;rw[he];clear he;rcases hr0 with rfl|⟨hr0_0,hr1_0,sm0⟩
 case inl=>
  go_wp2_with fail
  go_ret;exact⟨rfl,ExtOf.old hy3 e⟩
 have hr2_0:L0≤1048576:=by omega
 have SM0:=Lib.hid sm0;have HL0:=Lib.hid hr1_0;clear sm0 hr1_0
 go_wp2_with fail
 obtain⟨_,_,_, -, -, -,nl1_0,ml1_0⟩:=GNet.us (x:=a1) (TN.below ta1 e.h);refine(szNet_any a1 L0 _ (ta1.below e.h) (Nat.le_trans nl1_0 ml1_0) (by omega) (by omega)).mono ?_;rintro _ W2 ⟨z2,L1,rfl,hr1⟩;have hq4:=Ext.trans e.h z2;have hs4:=hq4.size
 replace k1_0:=k1_0.ext hq4
 replace ta0:=ta0.below hq4
 replace ta2:=ta2.below hq4
 replace ta1:=ta1.below hq4
 have hy5:=Ext.trans hy3 hq4;obtain⟨e,he⟩:∃e:ExtOf W2,W2=e.to:=⟨⟨W2,Below.refl _ _⟩,rfl⟩;rw[he];clear he;rcases hr1 with rfl|⟨hr0_1,hr1_1,sm1⟩
 case inl=>
  go_wp2_with fail
  go_ret;exact⟨rfl,ExtOf.old hy5 e⟩
 have hr2_1:L1≤1048576:=by omega
 have SM1:=Lib.hid sm1;have HL1:=Lib.hid hr1_1;clear sm1 hr1_1
 go_wp2_with fail
 refine wp_region_b e (W2.heap.size) (by kernel_rfl) 16 (by kernel_rfl) (fun wR6 hxwR6=> ?_);have hs_wR6:=hxwR6.size
 replace k1_0:=k1_0.ext hxwR6
 replace ta0:=ta0.below hxwR6
 replace ta2:=ta2.below hxwR6
 replace ta1:=ta1.below hxwR6
 have hy7:=Ext.trans hy5 hxwR6;have B_k1_0:=k1_0.b (N:=W2.heap.size) (by omega);refine fl_begin ⟨12,10,fun g=>.pointer (some ⟨g,0,none⟩),.cells #[.slice none 0 0] 30⟩ ⟨⟨_,rfl,rfl⟩,fun K a w h=>wpOp_alone rfl (by go_wp2_with fail;exact h)⟩ (fun hfl=> ?_);refine fl_take 0 rfl (by omega) hfl (by kernel_rfl) ?_;go_big_quiet_step (fail);refine wpQuiet_nil ?_;refine fl_take 2 rfl (by omega) hfl (by kernel_rfl) ?_;go_big_quiet_step (fail);refine wpQuiet_nil ?_;refine fl_take 4 rfl (by omega) hfl (by kernel_rfl) ?_;go_big_quiet_step (fail);refine wpQuiet_nil ?_;refine fl_take 6 rfl (by omega) hfl (by kernel_rfl) ?_;go_big_quiet_step (fail);refine wpQuiet_nil ?_
 refine fl_only 1 rfl (by omega) (fun x hx=>by simp at hx) hfl (by kernel_rfl) (fun e=> ?_)
 go_wp2_with fail
 refine(toNetS_any a0 _ (ta0.below e.h) SM0.out).mono ?_;rintro _ W3 ⟨B3,D3,q3,rfl,z3,T3,O3⟩;have lo3:∀b∈q3,e.to.heap.size≤b∧b<W3.heap.size:=fun b hb=>⟨(O3.2 b hb).1,T3.lt b hb⟩
 have sz3:=e.h.size;have sw3:=(Ext.trans hy7 e.h).size
 go_wp2_with fail
 refine aI z3 ⟨q3,lo3,?_⟩;have hq8:=Ext.trans e.h z3;have hs8:=hq8.size
 replace k1_0:=k1_0.ext hq8
 replace ta0:=ta0.below hq8
 replace ta2:=ta2.below hq8
 replace ta1:=ta1.below hq8
 have hy9:=Ext.trans hy7 hq8
 replace B_k1_0:=B_k1_0.go (hq8.mono (by omega))
 refine fl_only 3 rfl (by omega) (fun x hx=>by simp only[List.mem_append,List.mem_cons,List.not_mem_nil,or_false,false_or,List.append_nil,or_assoc]at hx;have h1:=lo3 x hx;omega) hfl (by kernel_rfl) (fun e=> ?_)
 go_wp2_with fail
 refine(toNet_any a1 _ (ta1.below e.h) SM1.out).mono ?_;rintro _ W4 ⟨_,q4,rfl,z4,T4,O4⟩;obtain⟨_,_,_,rfl, -⟩:=GNet.us T4;have lo4:∀b∈q4,e.to.heap.size≤b∧b<W4.heap.size:=fun b hb=>⟨(O4.2 b hb).1,T4.lt b hb⟩
 have sz4:=e.h.size;have sw4:=(Ext.trans hy9 e.h).size
 go_wp2_with fail
 refine aI z4 ⟨q4,lo4,?_⟩;have hq10:=Ext.trans e.h z4;have hs10:=hq10.size
 replace k1_0:=k1_0.ext hq10
 replace ta0:=ta0.below hq10
 replace ta2:=ta2.below hq10
 replace ta1:=ta1.below hq10
 replace T3:=T3.below hq10
 replace O3:=O3.below hq10
 have hy11:=Ext.trans hy9 hq10
 replace B_k1_0:=B_k1_0.go (hq10.mono (by omega))
 refine fl_only 5 rfl (by omega) (fun x hx=>by simp only[List.mem_append,List.mem_cons,List.not_mem_nil,or_false,false_or,List.append_nil,or_assoc]at hx;rcases hx with hx|hx<;>first|(have h1:=lo4 x hx;omega)|(have h1:=lo3 x hx;omega)) hfl (by kernel_rfl) (fun e=> ?_)
 go_wp2_with fail
 refine(toInt64S_any a2 _ (ta2.below e.h) hsl2).mono ?_;rintro _ W5 ⟨B5,D5,q5,rfl,z5,T5,O5⟩;have lo5:∀b∈q5,e.to.heap.size≤b∧b<W5.heap.size:=fun b hb=>⟨(O5.2 b hb).1,T5.lt b hb⟩
 have sz5:=e.h.size;have sw5:=(Ext.trans hy11 e.h).size
 go_wp2_with fail
 refine aI z5 ⟨q5,lo5,?_⟩;have hq12:=Ext.trans e.h z5;have hs12:=hq12.size
 replace k1_0:=k1_0.ext hq12
 replace ta0:=ta0.below hq12
 replace ta2:=ta2.below hq12
 replace ta1:=ta1.below hq12
 replace T3:=T3.below hq12
 replace T4:=T4.below hq12
 replace O3:=O3.below hq12
 replace O4:=O4.below hq12
 have hy13:=Ext.trans hy11 hq12
 replace B_k1_0:=B_k1_0.go (hq12.mono (by omega))
 refine fl_only 7 rfl (by omega) (fun x hx=>by simp only[List.mem_append,List.mem_cons,List.not_mem_nil,or_false,false_or,List.append_nil,or_assoc]at hx;rcases hx with hx|hx|hx<;>first|(have h1:=lo5 x hx;omega)|(have h1:=lo4 x hx;omega)|(have h1:=lo3 x hx;omega)) hfl (by kernel_rfl) (fun e=> ?_)
 go_wp2_with fail
 refine(xL a0 a1 a2 a3 r0 r1 r2 hR _ (T3.below e.h) (T4.below e.h) (T5.below e.h)).mono ?_;rintro _ W6 ⟨_,q6_0,B6_1,D6_1,q6_1,rfl,z6,T6_0,T6_1,O6⟩;obtain⟨A6_0_0,c6_0_0,_,rfl, -⟩:=GNet.us T6_0;obtain⟨O6_0,O6_1,dj6_1⟩:=Own.parts O6;have lo6_0:∀b∈q6_0,e.to.heap.size≤b∧b<W6.heap.size:=fun b hb=>⟨(O6_0.2 b hb).1,T6_0.lt b hb⟩
 have lo6_1:∀b∈q6_1,e.to.heap.size≤b∧b<W6.heap.size:=fun b hb=>⟨(O6_1.2 b hb).1,T6_1.lt b hb⟩
 have sz6:=e.h.size;have sw6:=(Ext.trans hy13 e.h).size;have ap6_0_1:∀y∈q6_0,y∉q6_1:=fun y hm=>dj6_1 y hm
 go_wp2_with fail
 refine aI z6 ⟨q6_0++q6_1,fun b hb=>(List.mem_append.1 hb).elim (lo6_0 b) (lo6_1 b),?_⟩;have hq14:=Ext.trans e.h z6;have hs14:=hq14.size
 replace k1_0:=k1_0.ext hq14
 replace ta0:=ta0.below hq14
 replace ta2:=ta2.below hq14
 replace ta1:=ta1.below hq14
 replace T3:=T3.below hq14
 replace T4:=T4.below hq14
 replace T5:=T5.below hq14
 replace O3:=O3.below hq14
 replace O4:=O4.below hq14
 replace O5:=O5.below hq14
 have hy15:=Ext.trans hy13 hq14
 replace B_k1_0:=B_k1_0.go (hq14.mono (by omega))
 refine fl_take 8 rfl (by omega) hfl (by kernel_rfl) ?_;go_big_quiet_step (fail);refine wpQuiet_nil ?_;refine fl_take 9 rfl (by omega) hfl (by kernel_rfl) ?_;go_big_quiet_step (fail);refine wpQuiet_nil ?_;refine fl_take 10 rfl (by omega) hfl (by kernel_rfl) ?_;go_big_quiet_step (fail);refine wpQuiet_nil ?_;refine fl_take 11 rfl (by omega) hfl (by kernel_rfl) ?_;go_big_quiet_step (fail);refine wpQuiet_nil ?_;refine fl_land (by omega) (fun x hx=>by simp only[List.mem_append,List.mem_cons,List.not_mem_nil,or_false,false_or,List.append_nil,or_assoc]at hx;rcases hx with hx|hx|hx|hx|hx<;>first|(have h1:=lo6_0 x hx;omega)|(have h1:=lo6_1 x hx;omega)|(have h1:=lo5 x hx;omega)|(have h1:=lo4 x hx;omega)|(have h1:=lo3 x hx;omega)) hfl (by kernel_rfl) (fun gf10 wL10 hxwL10 hgegf10 hnxgf10 rowgf10=> ?_)
 have hn_gf10_0:∀y∈q6_0,y≠gf10:=fun y hy h=>hnxgf10 (by simp[←h,hy])
 have hn_gf10_1:∀y∈q6_1,y≠gf10:=fun y hy h=>hnxgf10 (by simp[←h,hy])
 clear hnxgf10 hfl;have hltgf10:=lt_of_row rowgf10;have hs_wL10:=hxwL10.size;have fgf10:=row_fz rowgf10;have cgf10_0:=row_kn rowgf10 0 (v:=.slice none 0 0) rfl;clear B_k1_0
 replace k1_0:=k1_0.ext hxwL10
 replace ta0:=ta0.below hxwL10
 replace ta2:=ta2.below hxwL10
 replace ta1:=ta1.below hxwL10
 replace T6_0:=T6_0.below hxwL10
 replace T6_1:=T6_1.below hxwL10
 replace O6_0:=O6_0.below hxwL10
 replace O6_1:=O6_1.below hxwL10
 have hy16:=Ext.trans hy15 hxwL10;refine b_only 13 rfl (by kernel_rfl) (fun e he=> ?_);clear he
 go_wp2_with fail
 generalize hW:World.setCell e.to ⟨gf10,0,none⟩ (.slice A6_0_0 r0.agents.length c6_0_0)=wS10;have hbwS10:Chg [gf10] e.to wS10:=by rw[←hW];exact Onl.chg ((Onl.refl _ _).setCell (by simp) _ _)
 have nrgf10:wS10.heap[gf10]? =some (.cells #[.slice A6_0_0 r0.agents.length c6_0_0] 30 (0,0)):=by rw[←hW];exact(Rows.heap_set_same (row_at rowgf10 e))
 clear hW;refine aI (Chg.below hbwS10 (by have:=e.h.size;omega) (fun y hm=>by simp at hm;omega)) ?_;have hs_wS10:=Nat.le_trans e.h.size hbwS10.size
 replace k1_0:=k1_0.chg e hbwS10 (by omega) (fun hm=>by simp at hm;omega)
 replace ta0:=(ta0.below e.h).chg hbwS10 (fun y hy hm=>by have h1:=loa0 y hy;simp at hm;omega)
 replace ta2:=(ta2.below e.h).chg hbwS10 (fun y hy hm=>by have h1:=loa2 y hy;simp at hm;omega)
 replace ta1:=(ta1.below e.h).chg hbwS10 (fun y hy hm=>by have h1:=loa1 y hy;simp at hm;omega)
 replace T6_0:=(T6_0.below e.h).chg hbwS10 (fun y hy hm=>by have h1:=lo6_0 y hy;have h2:=hn_gf10_0 y hy;simp at hm;omega)
 replace O6_0:=(O6_0.below e.h).chg hbwS10 (fun y hy hm=>by have h1:=lo6_0 y hy;have h2:=hn_gf10_0 y hy;simp at hm;omega)
 replace T6_1:=(T6_1.below e.h).chg hbwS10 (fun y hy hm=>by have h1:=lo6_1 y hy;have h2:=hn_gf10_1 y hy;simp at hm;omega)
 replace O6_1:=(O6_1.below e.h).chg hbwS10 (fun y hy hm=>by have h1:=lo6_1 y hy;have h2:=hn_gf10_1 y hy;simp at hm;omega)
 have hy_wS10:Ext w wS10:=Below.trans (Ext.trans hy16 e.h) (Chg.below hbwS10 (B:=w.heap.size) ((Ext.trans hy16 e.h)).size (fun y hm=>by simp at hm;omega));have kf10_0:=row_kn nrgf10 0 (v:=.slice A6_0_0 r0.agents.length c6_0_0) rfl;clear fgf10 rowgf10 nrgf10 cgf10_0;refine b_take 14 rfl (by kernel_rfl) ?_;go_big_quiet_step (fail);refine wpQuiet_nil ?_;refine b_take 15 rfl (by kernel_rfl) ?_;go_big_quiet_step (fail);refine wpQuiet_nil ?_;refine b_done (by kernel_rfl) (fun e he=> ?_);clear he
 go_wp2_with fail
 refine(toNetS_any a0 _ (ta0.below e.h) SM0.out).mono ?_;rintro _ W7 ⟨B7,D7,q7,rfl,z7,T7,O7⟩;have lo7:∀b∈q7,e.to.heap.size≤b∧b<W7.heap.size:=fun b hb=>⟨(O7.2 b hb).1,T7.lt b hb⟩
 have sz7:=e.h.size;have sw7:=(Ext.trans hy_wS10 e.h).size;have hq17:=Ext.trans e.h z7;have hs17:=hq17.size
 replace k1_0:=k1_0.ext hq17
 replace kf10_0:=kf10_0.ext hq17
 replace ta0:=ta0.below hq17
 replace ta2:=ta2.below hq17
 replace ta1:=ta1.below hq17
 replace T6_0:=T6_0.below hq17
 replace T6_1:=T6_1.below hq17
 replace O6_0:=O6_0.below hq17
 replace O6_1:=O6_1.below hq17
 have hy18:=Ext.trans hy_wS10 hq17;obtain⟨e,he⟩:∃e:ExtOf W7,W7=e.to:=⟨⟨W7,Below.refl _ _⟩,rfl⟩;rw[he];clear he
 go_wp2_with fail
 refine(toNet_any a1 _ (ta1.below e.h) SM1.out).mono ?_;rintro _ W8 ⟨_,q8,rfl,z8,T8,O8⟩;obtain⟨_,_,_,rfl, -⟩:=GNet.us T8;have lo8:∀b∈q8,e.to.heap.size≤b∧b<W8.heap.size:=fun b hb=>⟨(O8.2 b hb).1,T8.lt b hb⟩
 have sz8:=e.h.size;have sw8:=(Ext.trans hy18 e.h).size;have hq19:=Ext.trans e.h z8;have hs19:=hq19.size
 replace k1_0:=k1_0.ext hq19
 replace kf10_0:=kf10_0.ext hq19
 replace ta0:=ta0.below hq19
 replace ta2:=ta2.below hq19
 replace ta1:=ta1.below hq19
 replace T6_0:=T6_0.below hq19
 replace T6_1:=T6_1.below hq19
 replace T7:=T7.below hq19
 replace O6_0:=O6_0.below hq19
 replace O6_1:=O6_1.below hq19
 replace O7:=O7.below hq19
 have hy20:=Ext.trans hy18 hq19;obtain⟨e,he⟩:∃e:ExtOf W8,W8=e.to:=⟨⟨W8,Below.refl _ _⟩,rfl⟩
 go_upto_region 13 with(fail)
 clear he;generalize hggx1:e.to.heap.size=gx1;refine rebase_box e hggx1 (fun w21 e hx21 hgegx1 hltgx1 cgx1=> ?_);clear hggx1
 replace k1_0:=k1_0.ext hx21
 replace kf10_0:=kf10_0.ext hx21
 replace ta0:=ta0.below hx21
 replace ta2:=ta2.below hx21
 replace ta1:=ta1.below hx21
 replace T6_0:=T6_0.below hx21
 replace T6_1:=T6_1.below hx21
 replace T7:=T7.below hx21
 replace T8:=T8.below hx21
 replace O6_0:=O6_0.below hx21
 replace O6_1:=O6_1.below hx21
 replace O7:=O7.below hx21
 replace O8:=O8.below hx21
 have hy21:=Ext.trans hy20 hx21;have hs_gx1:=hx21.size;have kx1_0:=cgx1.always hltgx1 0 _ rfl;simp only[Nat.zero_add]at kx1_0;clear cgx1
 go_wp2_with fail
 refine(toInt64S_any a2 _ (ta2.below e.h) hsl2).mono ?_;rintro _ W9 ⟨B9,D9,q9,rfl,z9,T9,O9⟩;have lo9:∀b∈q9,e.to.heap.size≤b∧b<W9.heap.size:=fun b hb=>⟨(O9.2 b hb).1,T9.lt b hb⟩
 have sz9:=e.h.size;have sw9:=(Ext.trans hy21 e.h).size;have hq22:=Ext.trans e.h z9;have hs22:=hq22.size
 replace k1_0:=k1_0.ext hq22
 replace kf10_0:=kf10_0.ext hq22
 replace kx1_0:=kx1_0.ext hq22
 replace ta0:=ta0.below hq22
 replace ta2:=ta2.below hq22
 replace ta1:=ta1.below hq22
 replace T6_0:=T6_0.below hq22
 replace T6_1:=T6_1.below hq22
 replace T7:=T7.below hq22
 replace T8:=T8.below hq22
 replace O6_0:=O6_0.below hq22
 replace O6_1:=O6_1.below hq22
 replace O7:=O7.below hq22
 replace O8:=O8.below hq22
 have hy23:=Ext.trans hy21 hq22;obtain⟨e,he⟩:∃e:ExtOf W9,W9=e.to:=⟨⟨W9,Below.refl _ _⟩,rfl⟩;rw[he];clear he
 go_wp2_with fail
 refine(pY a0 a1 a2 a3 r0 r1 r2 hR _ (T7.below e.h) (T8.below e.h) (T9.below e.h)).mono ?_;rintro _ W10 ⟨_,q10_0,B10_1,D10_1,q10_1,rfl,z10,T10_0,T10_1,O10⟩;obtain⟨A10_0_0,c10_0_0,_,rfl, -⟩:=GNet.us T10_0;obtain⟨O10_0,O10_1,dj10_1⟩:=Own.parts O10;have lo10_0:∀b∈q10_0,e.to.heap.size≤b∧b<W10.heap.size:=fun b hb=>⟨(O10_0.2 b hb).1,T10_0.lt b hb⟩
 have lo10_1:∀b∈q10_1,e.to.heap.size≤b∧b<W10.heap.size:=fun b hb=>⟨(O10_1.2 b hb).1,T10_1.lt b hb⟩
 have sz10:=e.h.size;have sw10:=(Ext.trans hy23 e.h).size;have ap10_0_1:∀y∈q10_0,y∉q10_1:=fun y hm=>dj10_1 y hm
 have hq24:=Ext.trans e.h z10;have hs24:=hq24.size
 replace k1_0:=k1_0.ext hq24
 replace kf10_0:=kf10_0.ext hq24
 replace kx1_0:=kx1_0.ext hq24
 replace ta0:=ta0.below hq24
 replace ta2:=ta2.below hq24
 replace ta1:=ta1.below hq24
 replace T6_0:=T6_0.below hq24
 replace T6_1:=T6_1.below hq24
 replace T7:=T7.below hq24
 replace T8:=T8.below hq24
 replace T9:=T9.below hq24
 replace O6_0:=O6_0.below hq24
 replace O6_1:=O6_1.below hq24
 replace O7:=O7.below hq24
 replace O8:=O8.below hq24
 replace O9:=O9.below hq24
 have hy25:=Ext.trans hy23 hq24;obtain⟨e,he⟩:∃e:ExtOf W10,W10=e.to:=⟨⟨W10,Below.refl _ _⟩,rfl⟩;rw[he];clear he
 go_upto_region 15 with(fail)
 generalize hggbg0:e.to.heap.size=gbg0;refine rebase_box e hggbg0 (fun w26 e hx26 hgegbg0 hltgbg0 cgbg0=> ?_);clear hggbg0
 replace k1_0:=k1_0.ext hx26
 replace kf10_0:=kf10_0.ext hx26
 replace kx1_0:=kx1_0.ext hx26
 replace ta0:=ta0.below hx26
 replace ta2:=ta2.below hx26
 replace ta1:=ta1.below hx26
 replace T6_0:=T6_0.below hx26
 replace T6_1:=T6_1.below hx26
 replace T7:=T7.below hx26
 replace T8:=T8.below hx26
 replace T9:=T9.below hx26
 replace T10_0:=T10_0.below hx26
 replace T10_1:=T10_1.below hx26
 replace O6_0:=O6_0.below hx26
 replace O6_1:=O6_1.below hx26
 replace O7:=O7.below hx26
 replace O8:=O8.below hx26
 replace O9:=O9.below hx26
 replace O10_0:=O10_0.below hx26
 replace O10_1:=O10_1.below hx26
 have hy26:=Ext.trans hy25 hx26;have hs_gbg0:=hx26.size;have kbg0_0:=cgbg0.always hltgbg0 0 _ rfl;simp only[Nat.zero_add]at kbg0_0;clear cgbg0;have ee_r0:eqb r0 r0=true:=eqb_self r0;have ee_r1:eqb r1 r1=true:=eqb_self r1
 go_wp2_with fail
 refine(eqNet_any r0 r0 _ (T10_0.below e.h) (T6_0.below e.h)).mono ?_;rintro _ W11 ⟨rfl,z11⟩;have hq27:=Ext.trans e.h z11;have hs27:=hq27.size
 replace k1_0:=k1_0.ext hq27
 replace kf10_0:=kf10_0.ext hq27
 replace kx1_0:=kx1_0.ext hq27
 replace kbg0_0:=kbg0_0.ext hq27
 replace ta0:=ta0.below hq27
 replace ta2:=ta2.below hq27
 replace ta1:=ta1.below hq27
 replace T6_0:=T6_0.below hq27
 replace T6_1:=T6_1.below hq27
 replace T7:=T7.below hq27
 replace T8:=T8.below hq27
 replace T9:=T9.below hq27
 replace T10_0:=T10_0.below hq27
 replace T10_1:=T10_1.below hq27
 replace O6_0:=O6_0.below hq27
 replace O6_1:=O6_1.below hq27
 replace O7:=O7.below hq27
 replace O8:=O8.below hq27
 replace O9:=O9.below hq27
 replace O10_0:=O10_0.below hq27
 replace O10_1:=O10_1.below hq27
 have hy28:=Ext.trans hy26 hq27;obtain⟨e,he⟩:∃e:ExtOf W11,W11=e.to:=⟨⟨W11,Below.refl _ _⟩,rfl⟩;rw[he];clear he
 go_wp2_with fail
 refine(eqInt64S_any r1 r1 _ (T10_1.below e.h) (T6_1.below e.h) (by have:=T10_1.nle;unfold maxLen;omega) (by have:=T10_1.nle;unfold maxLen;omega)).mono ?_;rintro _ W12 ⟨rfl,z12⟩;have hq29:=Ext.trans e.h z12;have hs29:=hq29.size
 replace k1_0:=k1_0.ext hq29
 replace kf10_0:=kf10_0.ext hq29
 replace kx1_0:=kx1_0.ext hq29
 replace kbg0_0:=kbg0_0.ext hq29
 replace ta0:=ta0.below hq29
 replace ta2:=ta2.below hq29
 replace ta1:=ta1.below hq29
 replace T6_0:=T6_0.below hq29
 replace T6_1:=T6_1.below hq29
 replace T7:=T7.below hq29
 replace T8:=T8.below hq29
 replace T9:=T9.below hq29
 replace T10_0:=T10_0.below hq29
 replace T10_1:=T10_1.below hq29
 replace O6_0:=O6_0.below hq29
 replace O6_1:=O6_1.below hq29
 replace O7:=O7.below hq29
 replace O8:=O8.below hq29
 replace O9:=O9.below hq29
 replace O10_0:=O10_0.below hq29
 replace O10_1:=O10_1.below hq29
 have hy30:=Ext.trans hy28 hq29;obtain⟨e,he⟩:∃e:ExtOf W12,W12=e.to:=⟨⟨W12,Below.refl _ _⟩,rfl⟩;rw[he];clear he;have ee_a0:eqb a0 a0=true:=eqb_self a0
 go_wp2_with fail
 refine(toNetS_any a0 _ (ta0.below e.h) SM0.out).mono ?_;rintro _ W13 ⟨B13,D13,q13,rfl,z13,T13,O13⟩;have lo13:∀b∈q13,e.to.heap.size≤b∧b<W13.heap.size:=fun b hb=>⟨(O13.2 b hb).1,T13.lt b hb⟩
 have sz13:=e.h.size;have sw13:=(Ext.trans hy30 e.h).size;have hq31:=Ext.trans e.h z13;have hs31:=hq31.size
 replace k1_0:=k1_0.ext hq31
 replace kf10_0:=kf10_0.ext hq31
 replace kx1_0:=kx1_0.ext hq31
 replace kbg0_0:=kbg0_0.ext hq31
 replace ta0:=ta0.below hq31
 replace ta2:=ta2.below hq31
 replace ta1:=ta1.below hq31
 replace T6_0:=T6_0.below hq31
 replace T6_1:=T6_1.below hq31
 replace T7:=T7.below hq31
 replace T8:=T8.below hq31
 replace T9:=T9.below hq31
 replace T10_0:=T10_0.below hq31
 replace T10_1:=T10_1.below hq31
 replace O6_0:=O6_0.below hq31
 replace O6_1:=O6_1.below hq31
 replace O7:=O7.below hq31
 replace O8:=O8.below hq31
 replace O9:=O9.below hq31
 replace O10_0:=O10_0.below hq31
 replace O10_1:=O10_1.below hq31
 have hy32:=Ext.trans hy30 hq31;obtain⟨e,he⟩:∃e:ExtOf W13,W13=e.to:=⟨⟨W13,Below.refl _ _⟩,rfl⟩;rw[he];clear he
 go_wp2_with fail
 refine(eqNetS_any a0 a0 _ (T7.below e.h) (T13.below e.h) (by have:=T7.nle;unfold maxLen;omega) (by have:=T7.nle;unfold maxLen;omega)).mono ?_;rintro _ W14 ⟨rfl,z14⟩;have hq33:=Ext.trans e.h z14;have hs33:=hq33.size
 replace k1_0:=k1_0.ext hq33
 replace kf10_0:=kf10_0.ext hq33
 replace kx1_0:=kx1_0.ext hq33
 replace kbg0_0:=kbg0_0.ext hq33
 replace ta0:=ta0.below hq33
 replace ta2:=ta2.below hq33
 replace ta1:=ta1.below hq33
 replace T6_0:=T6_0.below hq33
 replace T6_1:=T6_1.below hq33
 replace T7:=T7.below hq33
 replace T8:=T8.below hq33
 replace T9:=T9.below hq33
 replace T10_0:=T10_0.below hq33
 replace T10_1:=T10_1.below hq33
 replace T13:=T13.below hq33
 replace O6_0:=O6_0.below hq33
 replace O6_1:=O6_1.below hq33
 replace O7:=O7.below hq33
 replace O8:=O8.below hq33
 replace O9:=O9.below hq33
 replace O10_0:=O10_0.below hq33
 replace O10_1:=O10_1.below hq33
 replace O13:=O13.below hq33
 have hy34:=Ext.trans hy32 hq33;obtain⟨e,he⟩:∃e:ExtOf W14,W14=e.to:=⟨⟨W14,Below.refl _ _⟩,rfl⟩;rw[he];clear he;have ee_a1:eqb a1 a1=true:=eqb_self a1
 go_wp2_with fail
 refine wp_region_grow _ (by kernel_rfl) 5 (by kernel_rfl) ?_;refine grow_take 0 rfl (by kernel_rfl) ?_;go_big_quiet_step (fail);refine wpQuiet_nil ?_;refine grow_take 1 rfl (by kernel_rfl) ?_;go_big_quiet_step (fail);refine wpQuiet_nil ?_;refine grow_only 2 rfl (by kernel_rfl) (fun e=> ?_)
 go_wp2_with fail
 refine(toNet_any a1 _ (ta1.below e.h) SM1.out).mono ?_;rintro _ W15 ⟨_,q15,rfl,z15,T15,O15⟩;obtain⟨_,_,_,rfl, -⟩:=GNet.us T15;have lo15:∀b∈q15,e.to.heap.size≤b∧b<W15.heap.size:=fun b hb=>⟨(O15.2 b hb).1,T15.lt b hb⟩
 have sz15:=e.h.size;have sw15:=(Ext.trans hy34 e.h).size
 go_wp2_with fail
 refine aI z15 ?_;have hq35:=Ext.trans e.h z15;have hs35:=hq35.size
 replace k1_0:=k1_0.ext hq35
 replace kf10_0:=kf10_0.ext hq35
 replace kx1_0:=kx1_0.ext hq35
 replace kbg0_0:=kbg0_0.ext hq35
 replace ta0:=ta0.below hq35
 replace ta2:=ta2.below hq35
 replace ta1:=ta1.below hq35
 replace T6_0:=T6_0.below hq35
 replace T6_1:=T6_1.below hq35
 replace T7:=T7.below hq35
 replace T8:=T8.below hq35
 replace T9:=T9.below hq35
 replace T10_0:=T10_0.below hq35
 replace T10_1:=T10_1.below hq35
 replace O6_0:=O6_0.below hq35
 replace O6_1:=O6_1.below hq35
 replace O7:=O7.below hq35
 replace O8:=O8.below hq35
 replace O9:=O9.below hq35
 replace O10_0:=O10_0.below hq35
 replace O10_1:=O10_1.below hq35
 have hy36:=Ext.trans hy34 hq35;refine grow_only 3 rfl (by kernel_rfl) (fun e=> ?_)
 go_wp2_with fail
 refine(eqNet_any a1 a1 _ (T8.below e.h) (T15.below e.h)).mono ?_;rintro _ W16 ⟨rfl,z16⟩
 go_wp2_with fail
 refine aI z16 ?_;have hq37:=Ext.trans e.h z16;have hs37:=hq37.size
 replace k1_0:=k1_0.ext hq37
 replace kf10_0:=kf10_0.ext hq37
 replace kx1_0:=kx1_0.ext hq37
 replace kbg0_0:=kbg0_0.ext hq37
 replace ta0:=ta0.below hq37
 replace ta2:=ta2.below hq37
 replace ta1:=ta1.below hq37
 replace T6_0:=T6_0.below hq37
 replace T6_1:=T6_1.below hq37
 replace T7:=T7.below hq37
 replace T8:=T8.below hq37
 replace T9:=T9.below hq37
 replace T10_0:=T10_0.below hq37
 replace T10_1:=T10_1.below hq37
 replace T15:=T15.below hq37
 replace O6_0:=O6_0.below hq37
 replace O6_1:=O6_1.below hq37
 replace O7:=O7.below hq37
 replace O8:=O8.below hq37
 replace O9:=O9.below hq37
 replace O10_0:=O10_0.below hq37
 replace O10_1:=O10_1.below hq37
 replace O15:=O15.below hq37
 have hy38:=Ext.trans hy36 hq37;refine grow_take 4 rfl (by kernel_rfl) ?_;go_big_quiet_step (fail);refine wpQuiet_nil ?_;refine grow_done (by kernel_rfl) (fun e=> ?_);have ee_a2:eqb a2 a2=true:=eqb_self a2
 go_wp2_with fail
 refine(toInt64S_any a2 _ (ta2.below e.h) hsl2).mono ?_;rintro _ W17 ⟨B17,D17,q17,rfl,z17,T17,O17⟩;have lo17:∀b∈q17,e.to.heap.size≤b∧b<W17.heap.size:=fun b hb=>⟨(O17.2 b hb).1,T17.lt b hb⟩
 have sz17:=e.h.size;have sw17:=(Ext.trans hy38 e.h).size;have hq39:=Ext.trans e.h z17;have hs39:=hq39.size
 replace k1_0:=k1_0.ext hq39
 replace kf10_0:=kf10_0.ext hq39
 replace kx1_0:=kx1_0.ext hq39
 replace kbg0_0:=kbg0_0.ext hq39
 replace ta0:=ta0.below hq39
 replace ta2:=ta2.below hq39
 replace ta1:=ta1.below hq39
 replace T6_0:=T6_0.below hq39
 replace T6_1:=T6_1.below hq39
 replace T7:=T7.below hq39
 replace T8:=T8.below hq39
 replace T9:=T9.below hq39
 replace T10_0:=T10_0.below hq39
 replace T10_1:=T10_1.below hq39
 replace O6_0:=O6_0.below hq39
 replace O6_1:=O6_1.below hq39
 replace O7:=O7.below hq39
 replace O8:=O8.below hq39
 replace O9:=O9.below hq39
 replace O10_0:=O10_0.below hq39
 replace O10_1:=O10_1.below hq39
 have hy40:=Ext.trans hy38 hq39;obtain⟨e,he⟩:∃e:ExtOf W17,W17=e.to:=⟨⟨W17,Below.refl _ _⟩,rfl⟩;rw[he];clear he
 go_wp2_with fail
 refine(eqInt64S_any a2 a2 _ (T9.below e.h) (T17.below e.h) (by have:=T9.nle;unfold maxLen;omega) (by have:=T9.nle;unfold maxLen;omega)).mono ?_;rintro _ W18 ⟨rfl,z18⟩;have hq41:=Ext.trans e.h z18;have hs41:=hq41.size
 replace k1_0:=k1_0.ext hq41
 replace kf10_0:=kf10_0.ext hq41
 replace kx1_0:=kx1_0.ext hq41
 replace kbg0_0:=kbg0_0.ext hq41
 replace ta0:=ta0.below hq41
 replace ta2:=ta2.below hq41
 replace ta1:=ta1.below hq41
 replace T6_0:=T6_0.below hq41
 replace T6_1:=T6_1.below hq41
 replace T7:=T7.below hq41
 replace T8:=T8.below hq41
 replace T9:=T9.below hq41
 replace T10_0:=T10_0.below hq41
 replace T10_1:=T10_1.below hq41
 replace T17:=T17.below hq41
 replace O6_0:=O6_0.below hq41
 replace O6_1:=O6_1.below hq41
 replace O7:=O7.below hq41
 replace O8:=O8.below hq41
 replace O9:=O9.below hq41
 replace O10_0:=O10_0.below hq41
 replace O10_1:=O10_1.below hq41
 replace O17:=O17.below hq41
 have hy42:=Ext.trans hy40 hq41;obtain⟨e,he⟩:∃e:ExtOf W18,W18=e.to:=⟨⟨W18,Below.refl _ _⟩,rfl⟩;rw[he];clear he
 go_wp2_with fail
 have cb0:cN (a0.flatMap GNet.enc)≤33554432:=by have h1:=cN_flat_le (f:=GNet.enc) (g:=GNet.wt) GNet.cnE a0;have h2:=HL0.out;omega
 have cb1:a1.cnt≤33554432:=by have h1:=GNet.cnt_le a1;have h2:=HL1.out;omega
 have cb2:cN (a2.flatMap intE)≤33554432:=by have:=cN_ints a2;omega
 obtain⟨rb0,rb1⟩:r0.cnt≤1099511627776∧cN (r1.flatMap intE)≤1099511627776:=wF a0 a1 a2 a3 r0 r1 r2 hR.out SM0.out SM1.out hsl2;refine(markNetS_any a0 1 _ (T7.below e.h) (O7.below e.h) (by have:=T7.nle;unfold maxLen;omega) (by omega) (by omega)).mono ?_;rintro _ W19 ⟨kx0,rfl,hkx0,M19,f19,V19⟩;have pkx0:0≤kx0:=by have:=hkx0.out;omega
 have hsW19:=f19.size;have hszW19:=e.h.size
 replace k1_0:=k1_0.onl e f19 (by omega) (fun hm=>by have:=lo7 _ hm;omega)
 replace kf10_0:=kf10_0.onl e f19 (by omega) (fun hm=>by have:=lo7 _ hm;omega)
 replace kx1_0:=kx1_0.onl e f19 (by omega) (fun hm=>by have:=lo7 _ hm;omega)
 replace kbg0_0:=kbg0_0.onl e f19 (by omega) (fun hm=>by have:=lo7 _ hm;omega)
 replace ta0:=T1.onl (ta0.below e.h) f19 (fun y hy hm=>by have h1:=loa0 y hy;have h2:=lo7 y hm;omega)
 replace ta2:=T1.onl (ta2.below e.h) f19 (fun y hy hm=>by have h1:=loa2 y hy;have h2:=lo7 y hm;omega)
 replace ta1:=TN.onl (ta1.below e.h) f19 (fun y hy hm=>by have h1:=loa1 y hy;have h2:=lo7 y hm;omega)
 replace O6_0:=(O6_0.below e.h).onl f19
 replace T6_0:=TN.onl (T6_0.below e.h) f19 (fun y hy hm=>by have h1:=lo6_0 y hy;have h2:=lo7 y hm;omega)
 replace O6_1:=(O6_1.below e.h).onl f19
 replace T6_1:=T1.onl (T6_1.below e.h) f19 (fun y hy hm=>by have h1:=lo6_1 y hy;have h2:=lo7 y hm;omega)
 replace O8:=(O8.below e.h).onl f19
 replace T8:=TN.onl (T8.below e.h) f19 (fun y hy hm=>by have h1:=lo8 y hy;have h2:=lo7 y hm;omega)
 replace O9:=(O9.below e.h).onl f19
 replace T9:=T1.onl (T9.below e.h) f19 (fun y hy hm=>by have h1:=lo9 y hy;have h2:=lo7 y hm;omega)
 replace O10_0:=(O10_0.below e.h).onl f19
 replace T10_0:=TN.onl (T10_0.below e.h) f19 (fun y hy hm=>by have h1:=lo10_0 y hy;have h2:=lo7 y hm;omega)
 replace O10_1:=(O10_1.below e.h).onl f19
 replace T10_1:=T1.onl (T10_1.below e.h) f19 (fun y hy hm=>by have h1:=lo10_1 y hy;have h2:=lo7 y hm;omega)
 have hB19:Ext w W19:=Below.trans (Ext.trans hy42 e.h) (Onl.below f19 (Ext.trans hy42 e.h).size (fun y hm=>by have:=lo7 y hm;have:=(Ext.trans hy42 e.h).size;omega));obtain⟨e,he⟩:∃e:ExtOf W19,W19=e.to:=⟨⟨W19,Below.refl _ _⟩,rfl⟩;rw[he];clear he;have bdkx0:kx0≤36028797018963968:=by have:=hkx0.out;omega
 go_wp2_with fail
 refine(markNet_any a1 kx0 _ (T8.below e.h) (O8.below e.h) (by omega) (by omega)).mono ?_;rintro _ W20 ⟨kx1,rfl,hkx1,M20,f20,V20⟩;have pkx1:0≤kx1:=by have:=hkx1.out;omega
 have hsW20:=f20.size;have hszW20:=e.h.size
 replace k1_0:=k1_0.onl e f20 (by omega) (fun hm=>by have:=lo8 _ hm;omega)
 replace kf10_0:=kf10_0.onl e f20 (by omega) (fun hm=>by have:=lo8 _ hm;omega)
 replace kx1_0:=kx1_0.onl e f20 (by omega) (fun hm=>by have:=lo8 _ hm;omega)
 replace kbg0_0:=kbg0_0.onl e f20 (by omega) (fun hm=>by have:=lo8 _ hm;omega)
 replace ta0:=T1.onl (ta0.below e.h) f20 (fun y hy hm=>by have h1:=loa0 y hy;have h2:=lo8 y hm;omega)
 replace ta2:=T1.onl (ta2.below e.h) f20 (fun y hy hm=>by have h1:=loa2 y hy;have h2:=lo8 y hm;omega)
 replace ta1:=TN.onl (ta1.below e.h) f20 (fun y hy hm=>by have h1:=loa1 y hy;have h2:=lo8 y hm;omega)
 replace O6_0:=(O6_0.below e.h).onl f20
 replace T6_0:=TN.onl (T6_0.below e.h) f20 (fun y hy hm=>by have h1:=lo6_0 y hy;have h2:=lo8 y hm;omega)
 replace O6_1:=(O6_1.below e.h).onl f20
 replace T6_1:=T1.onl (T6_1.below e.h) f20 (fun y hy hm=>by have h1:=lo6_1 y hy;have h2:=lo8 y hm;omega)
 replace O9:=(O9.below e.h).onl f20
 replace T9:=T1.onl (T9.below e.h) f20 (fun y hy hm=>by have h1:=lo9 y hy;have h2:=lo8 y hm;omega)
 replace O10_0:=(O10_0.below e.h).onl f20
 replace T10_0:=TN.onl (T10_0.below e.h) f20 (fun y hy hm=>by have h1:=lo10_0 y hy;have h2:=lo8 y hm;omega)
 replace O10_1:=(O10_1.below e.h).onl f20
 replace T10_1:=T1.onl (T10_1.below e.h) f20 (fun y hy hm=>by have h1:=lo10_1 y hy;have h2:=lo8 y hm;omega)
 have hB20:Ext w W20:=Below.trans (Ext.trans hB19 e.h) (Onl.below f20 (Ext.trans hB19 e.h).size (fun y hm=>by have:=lo8 y hm;have:=(Ext.trans hB19 e.h).size;omega));obtain⟨e,he⟩:∃e:ExtOf W20,W20=e.to:=⟨⟨W20,Below.refl _ _⟩,rfl⟩;rw[he];clear he;have bdkx1:kx1≤72057594037927936:=by have:=hkx1.out;omega
 go_wp2_with fail
 refine(markInt64S_any a2 kx1 _ (T9.below e.h) (O9.below e.h) (by have:=T9.nle;unfold maxLen;omega) (by omega) (by omega)).mono ?_;rintro _ W21 ⟨kx2,rfl,hkx2,M21,f21,V21⟩;have pkx2:0≤kx2:=by have:=hkx2.out;omega
 have hsW21:=f21.size;have hszW21:=e.h.size
 replace k1_0:=k1_0.onl e f21 (by omega) (fun hm=>by have:=lo9 _ hm;omega)
 replace kf10_0:=kf10_0.onl e f21 (by omega) (fun hm=>by have:=lo9 _ hm;omega)
 replace kx1_0:=kx1_0.onl e f21 (by omega) (fun hm=>by have:=lo9 _ hm;omega)
 replace kbg0_0:=kbg0_0.onl e f21 (by omega) (fun hm=>by have:=lo9 _ hm;omega)
 replace ta0:=T1.onl (ta0.below e.h) f21 (fun y hy hm=>by have h1:=loa0 y hy;have h2:=lo9 y hm;omega)
 replace ta2:=T1.onl (ta2.below e.h) f21 (fun y hy hm=>by have h1:=loa2 y hy;have h2:=lo9 y hm;omega)
 replace ta1:=TN.onl (ta1.below e.h) f21 (fun y hy hm=>by have h1:=loa1 y hy;have h2:=lo9 y hm;omega)
 replace O6_0:=(O6_0.below e.h).onl f21
 replace T6_0:=TN.onl (T6_0.below e.h) f21 (fun y hy hm=>by have h1:=lo6_0 y hy;have h2:=lo9 y hm;omega)
 replace O6_1:=(O6_1.below e.h).onl f21
 replace T6_1:=T1.onl (T6_1.below e.h) f21 (fun y hy hm=>by have h1:=lo6_1 y hy;have h2:=lo9 y hm;omega)
 replace O10_0:=(O10_0.below e.h).onl f21
 replace T10_0:=TN.onl (T10_0.below e.h) f21 (fun y hy hm=>by have h1:=lo10_0 y hy;have h2:=lo9 y hm;omega)
 replace O10_1:=(O10_1.below e.h).onl f21
 replace T10_1:=T1.onl (T10_1.below e.h) f21 (fun y hy hm=>by have h1:=lo10_1 y hy;have h2:=lo9 y hm;omega)
 have hB21:Ext w W21:=Below.trans (Ext.trans hB20 e.h) (Onl.below f21 (Ext.trans hB20 e.h).size (fun y hm=>by have:=lo9 y hm;have:=(Ext.trans hB20 e.h).size;omega));obtain⟨e,he⟩:∃e:ExtOf W21,W21=e.to:=⟨⟨W21,Below.refl _ _⟩,rfl⟩;rw[he];clear he;have bdkx2:kx2≤108086391056891904:=by have:=hkx2.out;omega
 go_wp2_with fail
 refine(eqNet_any r0 r0 _ (T10_0.below e.h) (T6_0.below e.h)).mono ?_;rintro _ W22 ⟨rfl,z22⟩;have hq43:=Ext.trans e.h z22;have hs43:=hq43.size
 replace k1_0:=k1_0.ext hq43
 replace kf10_0:=kf10_0.ext hq43
 replace kx1_0:=kx1_0.ext hq43
 replace kbg0_0:=kbg0_0.ext hq43
 replace ta0:=ta0.below hq43
 replace ta2:=ta2.below hq43
 replace ta1:=ta1.below hq43
 replace T6_0:=T6_0.below hq43
 replace T6_1:=T6_1.below hq43
 replace T10_0:=T10_0.below hq43
 replace T10_1:=T10_1.below hq43
 replace O6_0:=O6_0.below hq43
 replace O6_1:=O6_1.below hq43
 replace O10_0:=O10_0.below hq43
 replace O10_1:=O10_1.below hq43
 have hy44:=Ext.trans hB21 hq43;obtain⟨e,he⟩:∃e:ExtOf W22,W22=e.to:=⟨⟨W22,Below.refl _ _⟩,rfl⟩;rw[he];clear he
 go_wp2_with fail
 refine(eqInt64S_any r1 r1 _ (T10_1.below e.h) (T6_1.below e.h) (by have:=T10_1.nle;unfold maxLen;omega) (by have:=T10_1.nle;unfold maxLen;omega)).mono ?_;rintro _ W23 ⟨rfl,z23⟩;have hq45:=Ext.trans e.h z23;have hs45:=hq45.size
 replace k1_0:=k1_0.ext hq45
 replace kf10_0:=kf10_0.ext hq45
 replace kx1_0:=kx1_0.ext hq45
 replace kbg0_0:=kbg0_0.ext hq45
 replace ta0:=ta0.below hq45
 replace ta2:=ta2.below hq45
 replace ta1:=ta1.below hq45
 replace T6_0:=T6_0.below hq45
 replace T6_1:=T6_1.below hq45
 replace T10_0:=T10_0.below hq45
 replace T10_1:=T10_1.below hq45
 replace O6_0:=O6_0.below hq45
 replace O6_1:=O6_1.below hq45
 replace O10_0:=O10_0.below hq45
 replace O10_1:=O10_1.below hq45
 have hy46:=Ext.trans hy44 hq45;obtain⟨e,he⟩:∃e:ExtOf W23,W23=e.to:=⟨⟨W23,Below.refl _ _⟩,rfl⟩;rw[he];clear he
 go_wp2_with fail
 refine(markNet_any r0 1 _ (T10_0.below e.h) (O10_0.below e.h) (by omega) (by omega)).mono ?_;rintro _ W24 ⟨mg0,rfl,hmg0,M24,f24,V24⟩;have pmg0:0≤mg0:=by have:=hmg0.out;omega
 have hsW24:=f24.size;have hszW24:=e.h.size
 replace k1_0:=k1_0.onl e f24 (by omega) (fun hm=>by have:=lo10_0 _ hm;omega)
 replace kf10_0:=kf10_0.onl e f24 (by omega) (fun hm=>by have:=lo10_0 _ hm;omega)
 replace kx1_0:=kx1_0.onl e f24 (by omega) (fun hm=>by have:=lo10_0 _ hm;omega)
 replace kbg0_0:=kbg0_0.onl e f24 (by omega) (fun hm=>by have:=lo10_0 _ hm;omega)
 replace ta0:=T1.onl (ta0.below e.h) f24 (fun y hy hm=>by have h1:=loa0 y hy;have h2:=lo10_0 y hm;omega)
 replace ta2:=T1.onl (ta2.below e.h) f24 (fun y hy hm=>by have h1:=loa2 y hy;have h2:=lo10_0 y hm;omega)
 replace ta1:=TN.onl (ta1.below e.h) f24 (fun y hy hm=>by have h1:=loa1 y hy;have h2:=lo10_0 y hm;omega)
 replace O6_0:=(O6_0.below e.h).onl f24
 replace T6_0:=TN.onl (T6_0.below e.h) f24 (fun y hy hm=>by have h1:=lo6_0 y hy;have h2:=lo10_0 y hm;omega)
 replace O6_1:=(O6_1.below e.h).onl f24
 replace T6_1:=T1.onl (T6_1.below e.h) f24 (fun y hy hm=>by have h1:=lo6_1 y hy;have h2:=lo10_0 y hm;omega)
 replace O10_1:=(O10_1.below e.h).onl f24
 replace T10_1:=T1.onl (T10_1.below e.h) f24 (fun y hy hm=>ap10_0_1 y hm hy)
 have hB24:Ext w W24:=Below.trans (Ext.trans hy46 e.h) (Onl.below f24 (Ext.trans hy46 e.h).size (fun y hm=>by have:=lo10_0 y hm;have:=(Ext.trans hy46 e.h).size;omega));obtain⟨e,he⟩:∃e:ExtOf W24,W24=e.to:=⟨⟨W24,Below.refl _ _⟩,rfl⟩;rw[he];clear he;have bdmg0:mg0≤144115188075855872:=by have:=hmg0.out;omega
 have O10_0:=V24
 go_wp2_with fail
 refine(markInt64S_any r1 mg0 _ (T10_1.below e.h) (O10_1.below e.h) (by have:=T10_1.nle;unfold maxLen;omega) (by omega) (by omega)).mono ?_;rintro _ W25 ⟨mg1,rfl,hmg1,M25,f25,V25⟩;have pmg1:0≤mg1:=by have:=hmg1.out;omega
 have hsW25:=f25.size;have hszW25:=e.h.size
 replace k1_0:=k1_0.onl e f25 (by omega) (fun hm=>by have:=lo10_1 _ hm;omega)
 replace kf10_0:=kf10_0.onl e f25 (by omega) (fun hm=>by have:=lo10_1 _ hm;omega)
 replace kx1_0:=kx1_0.onl e f25 (by omega) (fun hm=>by have:=lo10_1 _ hm;omega)
 replace kbg0_0:=kbg0_0.onl e f25 (by omega) (fun hm=>by have:=lo10_1 _ hm;omega)
 replace ta0:=T1.onl (ta0.below e.h) f25 (fun y hy hm=>by have h1:=loa0 y hy;have h2:=lo10_1 y hm;omega)
 replace ta2:=T1.onl (ta2.below e.h) f25 (fun y hy hm=>by have h1:=loa2 y hy;have h2:=lo10_1 y hm;omega)
 replace ta1:=TN.onl (ta1.below e.h) f25 (fun y hy hm=>by have h1:=loa1 y hy;have h2:=lo10_1 y hm;omega)
 replace O6_0:=(O6_0.below e.h).onl f25
 replace T6_0:=TN.onl (T6_0.below e.h) f25 (fun y hy hm=>by have h1:=lo6_0 y hy;have h2:=lo10_1 y hm;omega)
 replace O6_1:=(O6_1.below e.h).onl f25
 replace T6_1:=T1.onl (T6_1.below e.h) f25 (fun y hy hm=>by have h1:=lo6_1 y hy;have h2:=lo10_1 y hm;omega)
 replace O10_0:=(O10_0.below e.h).onl f25
 replace M24:=TN.onl (M24.below e.h) f25 ap10_0_1
 have hB25:Ext w W25:=Below.trans (Ext.trans hB24 e.h) (Onl.below f25 (Ext.trans hB24 e.h).size (fun y hm=>by have:=lo10_1 y hm;have:=(Ext.trans hB24 e.h).size;omega));obtain⟨e,he⟩:∃e:ExtOf W25,W25=e.to:=⟨⟨W25,Below.refl _ _⟩,rfl⟩;rw[he];clear he;have bdmg1:mg1≤180143985094819840:=by have:=hmg1.out;omega
 have O10_1:=V25;have CH0:Hid (QC Tryz.prog W25 _ _ _):=fun W hW=>heldNet_any r0 1 mg0 W (TN.below M24 hW) (by omega) (by omega) hmg0
 go_wp2_with (first|(go_at_call 24;with_reducible refine(CH0.out.at_ _).mono ?_;rintro _ _ ⟨rfl,e,rfl⟩))
 clear CH0;have CH1:Hid (QC Tryz.prog W25 _ _ _):=fun W hW=>heldInt64S_any r1 mg0 mg1 r1.length W (M25.below hW) Hid_rfl (by omega) (by omega) hmg1
 go_wp2_with (first|(go_at_call 25;with_reducible refine(CH1.out.at_ _).mono ?_;rintro _ _ ⟨rfl,e,rfl⟩))
 clear CH1
 go_wp2_with fail
 refine wp_region_b e (W25.heap.size) (by kernel_rfl) 16 (by kernel_rfl) (fun wR47 hxwR47=> ?_);have hs_wR47:=hxwR47.size
 replace k1_0:=k1_0.ext hxwR47
 replace kf10_0:=kf10_0.ext hxwR47
 replace kx1_0:=kx1_0.ext hxwR47
 replace kbg0_0:=kbg0_0.ext hxwR47
 replace ta0:=ta0.below hxwR47
 replace ta2:=ta2.below hxwR47
 replace ta1:=ta1.below hxwR47
 replace T6_0:=T6_0.below hxwR47
 replace T6_1:=T6_1.below hxwR47
 replace M24:=M24.below hxwR47
 replace M25:=M25.below hxwR47
 replace O6_0:=O6_0.below hxwR47
 replace O6_1:=O6_1.below hxwR47
 replace O10_0:=O10_0.below hxwR47
 replace O10_1:=O10_1.below hxwR47
 have hy48:=Ext.trans hB25 hxwR47;have B_k1_0:=k1_0.b (N:=W25.heap.size) (by omega);have B_kf10_0:=kf10_0.b (N:=W25.heap.size) (by omega);have B_kx1_0:=kx1_0.b (N:=W25.heap.size) (by omega);have B_kbg0_0:=kbg0_0.b (N:=W25.heap.size) (by omega);refine fl_begin ⟨12,22,fun g=>.pointer (some ⟨g,0,none⟩),.cells #[.slice none 0 0] 30⟩ ⟨⟨_,rfl,rfl⟩,fun K a w h=>wpOp_alone rfl (by go_wp2_with fail;exact h)⟩ (fun hfl=> ?_);refine fl_take 0 rfl (by omega) hfl (by kernel_rfl) ?_;go_big_quiet_step (fail);refine wpQuiet_nil ?_;refine fl_take 2 rfl (by omega) hfl (by kernel_rfl) ?_;go_big_quiet_step (fail);refine wpQuiet_nil ?_
 refine fl_take 4 rfl (by omega) hfl (by kernel_rfl) ?_;go_big_quiet_step (fail);refine wpQuiet_nil ?_;refine fl_take 6 rfl (by omega) hfl (by kernel_rfl) ?_;go_big_quiet_step (fail);refine wpQuiet_nil ?_;refine fl_only 1 rfl (by omega) (fun x hx=>by simp at hx) hfl (by kernel_rfl) (fun e=> ?_)
 go_wp2_with fail
 refine(toNetS_any a0 _ (ta0.below e.h) SM0.out).mono ?_;rintro _ W26 ⟨B26,D26,q26,rfl,z26,T26,O26⟩;have lo26:∀b∈q26,e.to.heap.size≤b∧b<W26.heap.size:=fun b hb=>⟨(O26.2 b hb).1,T26.lt b hb⟩
 have sz26:=e.h.size;have sw26:=(Ext.trans hy48 e.h).size
 go_wp2_with fail
 refine aI z26 ⟨q26,lo26,?_⟩;have hq49:=Ext.trans e.h z26;have hs49:=hq49.size
 replace k1_0:=k1_0.ext hq49
 replace kf10_0:=kf10_0.ext hq49
 replace kx1_0:=kx1_0.ext hq49
 replace kbg0_0:=kbg0_0.ext hq49
 replace ta0:=ta0.below hq49
 replace ta2:=ta2.below hq49
 replace ta1:=ta1.below hq49
 replace T6_0:=T6_0.below hq49
 replace T6_1:=T6_1.below hq49
 replace M24:=M24.below hq49
 replace M25:=M25.below hq49
 replace O6_0:=O6_0.below hq49
 replace O6_1:=O6_1.below hq49
 replace O10_0:=O10_0.below hq49
 replace O10_1:=O10_1.below hq49
 have hy50:=Ext.trans hy48 hq49
 replace B_k1_0:=B_k1_0.go (hq49.mono (by omega))
 replace B_kf10_0:=B_kf10_0.go (hq49.mono (by omega))
 replace B_kx1_0:=B_kx1_0.go (hq49.mono (by omega))
 replace B_kbg0_0:=B_kbg0_0.go (hq49.mono (by omega))
 refine fl_only 3 rfl (by omega) (fun x hx=>by simp only[List.mem_append,List.mem_cons,List.not_mem_nil,or_false,false_or,List.append_nil,or_assoc]at hx;have h1:=lo26 x hx;omega) hfl (by kernel_rfl) (fun e=> ?_)
 go_wp2_with fail
 refine(toNet_any a1 _ (ta1.below e.h) SM1.out).mono ?_;rintro _ W27 ⟨_,q27,rfl,z27,T27,O27⟩;obtain⟨_,_,_,rfl, -⟩:=GNet.us T27;have lo27:∀b∈q27,e.to.heap.size≤b∧b<W27.heap.size:=fun b hb=>⟨(O27.2 b hb).1,T27.lt b hb⟩
 have sz27:=e.h.size;have sw27:=(Ext.trans hy50 e.h).size
 go_wp2_with fail
 refine aI z27 ⟨q27,lo27,?_⟩;have hq51:=Ext.trans e.h z27;have hs51:=hq51.size
 replace k1_0:=k1_0.ext hq51
 replace kf10_0:=kf10_0.ext hq51
 replace kx1_0:=kx1_0.ext hq51
 replace kbg0_0:=kbg0_0.ext hq51
 replace ta0:=ta0.below hq51
 replace ta2:=ta2.below hq51
 replace ta1:=ta1.below hq51
 replace T6_0:=T6_0.below hq51
 replace T6_1:=T6_1.below hq51
 replace M24:=M24.below hq51
 replace M25:=M25.below hq51
 replace T26:=T26.below hq51
 replace O6_0:=O6_0.below hq51
 replace O6_1:=O6_1.below hq51
 replace O10_0:=O10_0.below hq51
 replace O10_1:=O10_1.below hq51
 replace O26:=O26.below hq51
 have hy52:=Ext.trans hy50 hq51
 replace B_k1_0:=B_k1_0.go (hq51.mono (by omega))
 replace B_kf10_0:=B_kf10_0.go (hq51.mono (by omega))
 replace B_kx1_0:=B_kx1_0.go (hq51.mono (by omega))
 replace B_kbg0_0:=B_kbg0_0.go (hq51.mono (by omega))
 refine fl_only 5 rfl (by omega) (fun x hx=>by simp only[List.mem_append,List.mem_cons,List.not_mem_nil,or_false,false_or,List.append_nil,or_assoc]at hx;rcases hx with hx|hx<;>first|(have h1:=lo27 x hx;omega)|(have h1:=lo26 x hx;omega)) hfl (by kernel_rfl) (fun e=> ?_)
 go_wp2_with fail
 refine(toInt64S_any a2 _ (ta2.below e.h) hsl2).mono ?_;rintro _ W28 ⟨B28,D28,q28,rfl,z28,T28,O28⟩;have lo28:∀b∈q28,e.to.heap.size≤b∧b<W28.heap.size:=fun b hb=>⟨(O28.2 b hb).1,T28.lt b hb⟩
 have sz28:=e.h.size;have sw28:=(Ext.trans hy52 e.h).size
 go_wp2_with fail
 refine aI z28 ⟨q28,lo28,?_⟩;have hq53:=Ext.trans e.h z28;have hs53:=hq53.size
 replace k1_0:=k1_0.ext hq53
 replace kf10_0:=kf10_0.ext hq53
 replace kx1_0:=kx1_0.ext hq53
 replace kbg0_0:=kbg0_0.ext hq53
 replace ta0:=ta0.below hq53
 replace ta2:=ta2.below hq53
 replace ta1:=ta1.below hq53
 replace T6_0:=T6_0.below hq53
 replace T6_1:=T6_1.below hq53
 replace M24:=M24.below hq53
 replace M25:=M25.below hq53
 replace T26:=T26.below hq53
 replace T27:=T27.below hq53
 replace O6_0:=O6_0.below hq53
 replace O6_1:=O6_1.below hq53
 replace O10_0:=O10_0.below hq53
 replace O10_1:=O10_1.below hq53
 replace O26:=O26.below hq53
 replace O27:=O27.below hq53
 have hy54:=Ext.trans hy52 hq53
 replace B_k1_0:=B_k1_0.go (hq53.mono (by omega))
 replace B_kf10_0:=B_kf10_0.go (hq53.mono (by omega))
 replace B_kx1_0:=B_kx1_0.go (hq53.mono (by omega))
 replace B_kbg0_0:=B_kbg0_0.go (hq53.mono (by omega))
 refine fl_only 7 rfl (by omega) (fun x hx=>by simp only[List.mem_append,List.mem_cons,List.not_mem_nil,or_false,false_or,List.append_nil,or_assoc]at hx;rcases hx with hx|hx|hx<;>first|(have h1:=lo28 x hx;omega)|(have h1:=lo27 x hx;omega)|(have h1:=lo26 x hx;omega)) hfl (by kernel_rfl) (fun e=> ?_)
 go_wp2_with fail
 refine(pY a0 a1 a2 a3 r0 r1 r2 hR _ (T26.below e.h) (T27.below e.h) (T28.below e.h)).mono ?_;rintro _ W29 ⟨_,q29_0,B29_1,D29_1,q29_1,rfl,z29,T29_0,T29_1,O29⟩;obtain⟨A29_0_0,c29_0_0,_,rfl, -⟩:=GNet.us T29_0;obtain⟨O29_0,O29_1,dj29_1⟩:=Own.parts O29;have lo29_0:∀b∈q29_0,e.to.heap.size≤b∧b<W29.heap.size:=fun b hb=>⟨(O29_0.2 b hb).1,T29_0.lt b hb⟩
 have lo29_1:∀b∈q29_1,e.to.heap.size≤b∧b<W29.heap.size:=fun b hb=>⟨(O29_1.2 b hb).1,T29_1.lt b hb⟩
 have sz29:=e.h.size;have sw29:=(Ext.trans hy54 e.h).size;have ap29_0_1:∀y∈q29_0,y∉q29_1:=fun y hm=>dj29_1 y hm
 go_wp2_with fail
 refine aI z29 ⟨q29_0++q29_1,fun b hb=>(List.mem_append.1 hb).elim (lo29_0 b) (lo29_1 b),?_⟩;have hq55:=Ext.trans e.h z29;have hs55:=hq55.size
 replace k1_0:=k1_0.ext hq55
 replace kf10_0:=kf10_0.ext hq55
 replace kx1_0:=kx1_0.ext hq55
 replace kbg0_0:=kbg0_0.ext hq55
 replace ta0:=ta0.below hq55
 replace ta2:=ta2.below hq55
 replace ta1:=ta1.below hq55
 replace T6_0:=T6_0.below hq55
 replace T6_1:=T6_1.below hq55
 replace M24:=M24.below hq55
 replace M25:=M25.below hq55
 replace T26:=T26.below hq55
 replace T27:=T27.below hq55
 replace T28:=T28.below hq55
 replace O6_0:=O6_0.below hq55
 replace O6_1:=O6_1.below hq55
 replace O10_0:=O10_0.below hq55
 replace O10_1:=O10_1.below hq55
 replace O26:=O26.below hq55
 replace O27:=O27.below hq55
 replace O28:=O28.below hq55
 have hy56:=Ext.trans hy54 hq55
 replace B_k1_0:=B_k1_0.go (hq55.mono (by omega))
 replace B_kf10_0:=B_kf10_0.go (hq55.mono (by omega))
 replace B_kx1_0:=B_kx1_0.go (hq55.mono (by omega))
 replace B_kbg0_0:=B_kbg0_0.go (hq55.mono (by omega))
 refine fl_take 8 rfl (by omega) hfl (by kernel_rfl) ?_;go_big_quiet_step (fail);refine wpQuiet_nil ?_;refine fl_take 9 rfl (by omega) hfl (by kernel_rfl) ?_;go_big_quiet_step (fail);refine wpQuiet_nil ?_;refine fl_take 10 rfl (by omega) hfl (by kernel_rfl) ?_;go_big_quiet_step (fail);refine wpQuiet_nil ?_;refine fl_take 11 rfl (by omega) hfl (by kernel_rfl) ?_;go_big_quiet_step (fail);refine wpQuiet_nil ?_;refine fl_land (by omega) (fun x hx=>by simp only[List.mem_append,List.mem_cons,List.not_mem_nil,or_false,false_or,List.append_nil,or_assoc]at hx;rcases hx with hx|hx|hx|hx|hx<;>first|(have h1:=lo29_0 x hx;omega)|(have h1:=lo29_1 x hx;omega)|(have h1:=lo28 x hx;omega)|(have h1:=lo27 x hx;omega)|(have h1:=lo26 x hx;omega)) hfl (by kernel_rfl) (fun gf41 wL41 hxwL41 hgegf41 hnxgf41 rowgf41=> ?_)
 have hn_gf41_0:∀y∈q29_0,y≠gf41:=fun y hy h=>hnxgf41 (by simp[←h,hy])
 have hn_gf41_1:∀y∈q29_1,y≠gf41:=fun y hy h=>hnxgf41 (by simp[←h,hy])
 clear hnxgf41 hfl;have hltgf41:=lt_of_row rowgf41;have hs_wL41:=hxwL41.size;have fgf41:=row_fz rowgf41;have cgf41_0:=row_kn rowgf41 0 (v:=.slice none 0 0) rfl;clear B_k1_0 B_kf10_0 B_kx1_0 B_kbg0_0
 replace k1_0:=k1_0.ext hxwL41
 replace kf10_0:=kf10_0.ext hxwL41
 replace kx1_0:=kx1_0.ext hxwL41
 replace kbg0_0:=kbg0_0.ext hxwL41
 replace ta0:=ta0.below hxwL41
 replace ta2:=ta2.below hxwL41
 replace ta1:=ta1.below hxwL41
 replace T6_0:=T6_0.below hxwL41
 replace T6_1:=T6_1.below hxwL41
 replace M24:=M24.below hxwL41
 replace M25:=M25.below hxwL41
 replace T29_0:=T29_0.below hxwL41
 replace T29_1:=T29_1.below hxwL41
 replace O6_0:=O6_0.below hxwL41
 replace O6_1:=O6_1.below hxwL41
 replace O10_0:=O10_0.below hxwL41
 replace O10_1:=O10_1.below hxwL41
 replace O29_0:=O29_0.below hxwL41
 replace O29_1:=O29_1.below hxwL41
 have hy57:=Ext.trans hy56 hxwL41;refine b_only 13 rfl (by kernel_rfl) (fun e he=> ?_);clear he
 go_wp2_with fail
 generalize hW:World.setCell e.to ⟨gf41,0,none⟩ (.slice A29_0_0 r0.agents.length c29_0_0)=wS41;have hbwS41:Chg [gf41] e.to wS41:=by rw[←hW];exact Onl.chg ((Onl.refl _ _).setCell (by simp) _ _)
 have nrgf41:wS41.heap[gf41]? =some (.cells #[.slice A29_0_0 r0.agents.length c29_0_0] 30 (0,0)):=by rw[←hW];exact(Rows.heap_set_same (row_at rowgf41 e))
 clear hW;refine aI (Chg.below hbwS41 (by have:=e.h.size;omega) (fun y hm=>by simp at hm;omega)) ?_;have hs_wS41:=Nat.le_trans e.h.size hbwS41.size
 replace k1_0:=k1_0.chg e hbwS41 (by omega) (fun hm=>by simp at hm;omega)
 replace kf10_0:=kf10_0.chg e hbwS41 (by omega) (fun hm=>by simp at hm;omega)
 replace kx1_0:=kx1_0.chg e hbwS41 (by omega) (fun hm=>by simp at hm;omega)
 replace kbg0_0:=kbg0_0.chg e hbwS41 (by omega) (fun hm=>by simp at hm;omega)
 replace ta0:=(ta0.below e.h).chg hbwS41 (fun y hy hm=>by have h1:=loa0 y hy;simp at hm;omega)
 replace ta2:=(ta2.below e.h).chg hbwS41 (fun y hy hm=>by have h1:=loa2 y hy;simp at hm;omega)
 replace ta1:=(ta1.below e.h).chg hbwS41 (fun y hy hm=>by have h1:=loa1 y hy;simp at hm;omega)
 replace T6_0:=(T6_0.below e.h).chg hbwS41 (fun y hy hm=>by have h1:=lo6_0 y hy;simp at hm;omega)
 replace O6_0:=(O6_0.below e.h).chg hbwS41 (fun y hy hm=>by have h1:=lo6_0 y hy;simp at hm;omega)
 replace T6_1:=(T6_1.below e.h).chg hbwS41 (fun y hy hm=>by have h1:=lo6_1 y hy;simp at hm;omega)
 replace O6_1:=(O6_1.below e.h).chg hbwS41 (fun y hy hm=>by have h1:=lo6_1 y hy;simp at hm;omega)
 replace M24:=(M24.below e.h).chg hbwS41 (fun y hy hm=>by have h1:=lo10_0 y hy;simp at hm;omega)
 replace O10_0:=(O10_0.below e.h).chg hbwS41 (fun y hy hm=>by have h1:=lo10_0 y hy;simp at hm;omega)
 replace M25:=(M25.below e.h).chg hbwS41 (fun y hy hm=>by have h1:=lo10_1 y hy;simp at hm;omega)
 replace O10_1:=(O10_1.below e.h).chg hbwS41 (fun y hy hm=>by have h1:=lo10_1 y hy;simp at hm;omega)
 replace T29_0:=(T29_0.below e.h).chg hbwS41 (fun y hy hm=>by have h1:=lo29_0 y hy;have h2:=hn_gf41_0 y hy;simp at hm;omega)
 replace O29_0:=(O29_0.below e.h).chg hbwS41 (fun y hy hm=>by have h1:=lo29_0 y hy;have h2:=hn_gf41_0 y hy;simp at hm;omega)
 replace T29_1:=(T29_1.below e.h).chg hbwS41 (fun y hy hm=>by have h1:=lo29_1 y hy;have h2:=hn_gf41_1 y hy;simp at hm;omega)
 replace O29_1:=(O29_1.below e.h).chg hbwS41 (fun y hy hm=>by have h1:=lo29_1 y hy;have h2:=hn_gf41_1 y hy;simp at hm;omega)
 have hy_wS41:Ext w wS41:=Below.trans (Ext.trans hy57 e.h) (Chg.below hbwS41 (B:=w.heap.size) ((Ext.trans hy57 e.h)).size (fun y hm=>by simp at hm;omega));have kf41_0:=row_kn nrgf41 0 (v:=.slice A29_0_0 r0.agents.length c29_0_0) rfl;clear fgf41 rowgf41 nrgf41 cgf41_0;refine b_take 14 rfl (by kernel_rfl) ?_;go_big_quiet_step (fail);refine wpQuiet_nil ?_;refine b_take 15 rfl (by kernel_rfl) ?_;go_big_quiet_step (fail);refine wpQuiet_nil ?_;refine b_done (by kernel_rfl) (fun e he=> ?_);clear he
 go_wp2_with fail
 refine(eqNet_any r0 r0 _ (T29_0.below e.h) (T6_0.below e.h)).mono ?_;rintro _ W30 ⟨rfl,z30⟩;have hq58:=Ext.trans e.h z30;have hs58:=hq58.size
 replace k1_0:=k1_0.ext hq58
 replace kf10_0:=kf10_0.ext hq58
 replace kx1_0:=kx1_0.ext hq58
 replace kbg0_0:=kbg0_0.ext hq58
 replace kf41_0:=kf41_0.ext hq58
 replace ta0:=ta0.below hq58
 replace ta2:=ta2.below hq58
 replace ta1:=ta1.below hq58
 replace T6_0:=T6_0.below hq58
 replace T6_1:=T6_1.below hq58
 replace M24:=M24.below hq58
 replace M25:=M25.below hq58
 replace T29_0:=T29_0.below hq58
 replace T29_1:=T29_1.below hq58
 replace O6_0:=O6_0.below hq58
 replace O6_1:=O6_1.below hq58
 replace O10_0:=O10_0.below hq58
 replace O10_1:=O10_1.below hq58
 replace O29_0:=O29_0.below hq58
 replace O29_1:=O29_1.below hq58
 have hy59:=Ext.trans hy_wS41 hq58;obtain⟨e,he⟩:∃e:ExtOf W30,W30=e.to:=⟨⟨W30,Below.refl _ _⟩,rfl⟩;rw[he];clear he
 go_wp2_with fail
 refine(eqInt64S_any r1 r1 _ (T29_1.below e.h) (T6_1.below e.h) (by have:=T29_1.nle;unfold maxLen;omega) (by have:=T29_1.nle;unfold maxLen;omega)).mono ?_;rintro _ W31 ⟨rfl,z31⟩;have hq60:=Ext.trans e.h z31;have hs60:=hq60.size
 replace k1_0:=k1_0.ext hq60
 replace kf10_0:=kf10_0.ext hq60
 replace kx1_0:=kx1_0.ext hq60
 replace kbg0_0:=kbg0_0.ext hq60
 replace kf41_0:=kf41_0.ext hq60
 replace ta0:=ta0.below hq60
 replace ta2:=ta2.below hq60
 replace ta1:=ta1.below hq60
 replace T6_0:=T6_0.below hq60
 replace T6_1:=T6_1.below hq60
 replace M24:=M24.below hq60
 replace M25:=M25.below hq60
 replace T29_0:=T29_0.below hq60
 replace T29_1:=T29_1.below hq60
 replace O6_0:=O6_0.below hq60
 replace O6_1:=O6_1.below hq60
 replace O10_0:=O10_0.below hq60
 replace O10_1:=O10_1.below hq60
 replace O29_0:=O29_0.below hq60
 replace O29_1:=O29_1.below hq60
 have hy61:=Ext.trans hy59 hq60;obtain⟨e,he⟩:∃e:ExtOf W31,W31=e.to:=⟨⟨W31,Below.refl _ _⟩,rfl⟩;rw[he];clear he;have CH0:Hid (QC Tryz.prog W31 _ _ _):=fun W hW=>heldNet_any r0 1 mg0 W (TN.below M24 hW) (by omega) (by omega) hmg0
 go_wp2_with (first|(go_at_call 24;with_reducible refine(CH0.out.at_ _).mono ?_;rintro _ _ ⟨rfl,e,rfl⟩))
 clear CH0;have CH1:Hid (QC Tryz.prog W31 _ _ _):=fun W hW=>heldInt64S_any r1 mg0 mg1 r1.length W (M25.below hW) Hid_rfl (by omega) (by omega) hmg1
 go_wp2_with (first|(go_at_call 25;with_reducible refine(CH1.out.at_ _).mono ?_;rintro _ _ ⟨rfl,e,rfl⟩))
 clear CH1
 go_wp2_with fail
 go_ret;exact⟨rfl,ExtOf.old hy61 e⟩
end Go.Proofs.YtjijpkphkicoeaaGreat
