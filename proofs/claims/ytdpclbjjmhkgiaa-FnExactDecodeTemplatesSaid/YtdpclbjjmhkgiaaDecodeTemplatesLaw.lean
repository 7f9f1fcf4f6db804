
/- The law FnExactDecodeTemplates, walked. Printed by gen_law.py. -/
import Derived.Test.YtdpclbjjmhkgiaaProg
import Derived.Test.YtdpclbjjmhkgiaaTt
import Derived.Test.YtdpclbjjmhkgiaaKDbg
import Derived.Test.YtdpclbjjmhkgiaaZDbg
import Derived.Test.YtdpclbjjmhkgiaaSc
import Derived.BigGuardPart
import Derived.Outline
import Derived.Deep.CutBlock
set_option linter.unusedSimpArgs false
set_option linter.unusedVariables false
namespace Go.Proofs.Ytdpclbjjmhkgiaa
open Go Go.RowKit Go.Proofs Go.Tr
set_option maxRecDepth 100000 in
set_option maxHeartbeats 16000000 in
theorem vQ(a0:(List Int)){A0:Option Addr}{c0:Nat}{p0:List Nat}(w:World)(hr0:∀x∈a0,0≤x∧x≤255)(ta0:T1 w (.sl a0.length (a0.flatMap iJ)) p0 (.slice A0 a0.length c0)):Calls Try.prog 4 #[.slice A0 a0.length c0] w fun e w'=>e=.returned (.bool (true))∧Ext w w':=by
 refine bC fun e=> ?_
 obtain⟨⟨r0,r1⟩,hR0⟩:∃R,R=jh a0:=⟨_,rfl⟩;have hR:=Lib.hid hR0;clear hR0;have loa0:∀b∈p0,0≤b∧b<w.heap.size:=fun b hb=>⟨Nat.zero_le _,ta0.lt b hb⟩
 have hna0:=ta0.vU;have el0:=Lib.hid (rfl:a0.length=a0.length)
 go_enter Try.func4,Try.ntmps4
 have hx0:Ext w w:=Below.refl _ _
 by_cases hsl0:1048576<a0.length
 case pos=>
  go_wp2_with fail
  go_ret;exact⟨rfl,aU.old hx0 e⟩
 replace hsl0:a0.length≤1048576:=by omega
 go_wp2_with fail
 refine(iW a0 _ (ta0.below e.h) hsl0).mono ?_;rintro _ W2 ⟨B2,D2,q2,rfl,z2,T2,O2⟩;have lo2:∀b∈q2,e.to.heap.size≤b∧b<W2.heap.size:=fun b hb=>⟨(O2.2 b hb).1,T2.lt b hb⟩
 have sz2:=e.h.size;have sw2:=(Ext.trans hx0 e.h).size;have hq1:=Ext.trans e.h z2;have hs1:=hq1.size
 replace ta0:=ta0.below hq1
 have hy2:=Ext.trans hx0 hq1;obtain⟨e,he⟩:∃e:aU W2,W2=e.to:=⟨⟨W2,Below.refl _ _⟩,rfl⟩;rw[he];clear he
 go_wp2_with fail
 refine(rZ a0 r0 r1 hR _ (T2.below e.h) hr0 hsl0).mono ?_;rintro _ W3 ⟨B3_0,D3_0,q3_0,rfl,z3,T3_0⟩;have lo3_0:∀b∈q3_0,0≤b∧b<W3.heap.size:=fun b hb=>⟨Nat.zero_le _,T3_0.lt b hb⟩
 have sz3:=e.h.size;have sw3:=(Ext.trans hy2 e.h).size;have hq3:=Ext.trans e.h z3;have hs3:=hq3.size
 replace ta0:=ta0.below hq3
 replace T2:=T2.below hq3
 replace O2:=O2.below hq3
 have hy4:=Ext.trans hy2 hq3;obtain⟨e,he⟩:∃e:aU W3,W3=e.to:=⟨⟨W3,Below.refl _ _⟩,rfl⟩;rw[he];clear he
 go_wp2_with fail
 refine(iW a0 _ (ta0.below e.h) hsl0).mono ?_;rintro _ W4 ⟨B4,D4,q4,rfl,z4,T4,O4⟩;have lo4:∀b∈q4,e.to.heap.size≤b∧b<W4.heap.size:=fun b hb=>⟨(O4.2 b hb).1,T4.lt b hb⟩
 have sz4:=e.h.size;have sw4:=(Ext.trans hy4 e.h).size;have hq5:=Ext.trans e.h z4;have hs5:=hq5.size
 replace ta0:=ta0.below hq5
 replace T3_0:=T3_0.below hq5
 have hy6:=Ext.trans hy4 hq5;obtain⟨e,he⟩:∃e:aU W4,W4=e.to:=⟨⟨W4,Below.refl _ _⟩,rfl⟩;rw[he];clear he
 go_wp2_with fail
 refine(mQ a0 r0 r1 hR _ (T4.below e.h) hr0 hsl0).mono ?_;rintro _ W5 ⟨B5_0,D5_0,q5_0,rfl,z5,T5_0,O5⟩;have O5_0:=O5;have lo5_0:∀b∈q5_0,e.to.heap.size≤b∧b<W5.heap.size:=fun b hb=>⟨(O5_0.2 b hb).1,T5_0.lt b hb⟩
 have sz5:=e.h.size;have sw5:=(Ext.trans hy6 e.h).size;have hq7:=Ext.trans e.h z5;have hs7:=hq7.size
 replace ta0:=ta0.below hq7
 replace T3_0:=T3_0.below hq7
 replace T4:=T4.below hq7
 replace O4:=O4.below hq7
 have hy8:=Ext.trans hy6 hq7;obtain⟨e,he⟩:∃e:aU W5,W5=e.to:=⟨⟨W5,Below.refl _ _⟩,rfl⟩;rw[he];clear he;have ee_r0:rO r0 r0=true:=lD r0
 go_wp2_with fail
 refine(vM r0 r0 _ (T5_0.below e.h) (T3_0.below e.h) (by have:=T5_0.vU;unfold maxLen;omega) (by have:=T5_0.vU;unfold maxLen;omega)).mono ?_;rintro _ W6 ⟨rfl,z6⟩;have hq9:=Ext.trans e.h z6;have hs9:=hq9.size
 replace ta0:=ta0.below hq9
 replace T3_0:=T3_0.below hq9
 replace T4:=T4.below hq9
 replace T5_0:=T5_0.below hq9
 replace O4:=O4.below hq9
 replace O5_0:=O5_0.below hq9
 have hy10:=Ext.trans hy8 hq9;obtain⟨e,he⟩:∃e:aU W6,W6=e.to:=⟨⟨W6,Below.refl _ _⟩,rfl⟩;rw[he];clear he;have ee_a0:rO a0 a0=true:=lD a0
 go_wp2_with fail
 refine(iW a0 _ (ta0.below e.h) hsl0).mono ?_;rintro _ W7 ⟨B7,D7,q7,rfl,z7,T7,O7⟩;have lo7:∀b∈q7,e.to.heap.size≤b∧b<W7.heap.size:=fun b hb=>⟨(O7.2 b hb).1,T7.lt b hb⟩
 have sz7:=e.h.size;have sw7:=(Ext.trans hy10 e.h).size;have hq11:=Ext.trans e.h z7;have hs11:=hq11.size
 replace ta0:=ta0.below hq11
 replace T3_0:=T3_0.below hq11
 replace T4:=T4.below hq11
 replace T5_0:=T5_0.below hq11
 replace O4:=O4.below hq11
 replace O5_0:=O5_0.below hq11
 have hy12:=Ext.trans hy10 hq11;obtain⟨e,he⟩:∃e:aU W7,W7=e.to:=⟨⟨W7,Below.refl _ _⟩,rfl⟩;rw[he];clear he
 go_wp2_with fail
 refine(yZ a0 a0 _ (T4.below e.h) (T7.below e.h) (by omega)).mono ?_;rintro _ W8 ⟨rfl,z8⟩;have hq13:=Ext.trans e.h z8;have hs13:=hq13.size
 replace ta0:=ta0.below hq13
 replace T3_0:=T3_0.below hq13
 replace T4:=T4.below hq13
 replace T5_0:=T5_0.below hq13
 replace T7:=T7.below hq13
 replace O4:=O4.below hq13
 replace O5_0:=O5_0.below hq13
 replace O7:=O7.below hq13
 have hy14:=Ext.trans hy12 hq13;obtain⟨e,he⟩:∃e:aU W8,W8=e.to:=⟨⟨W8,Below.refl _ _⟩,rfl⟩;rw[he];clear he
 go_wp2_with fail
 have cb0:a0.length≤33554432:=by omega
 have rb0:cN (r0.flatMap aW.enc)≤1099511627776:=rG a0 r0 r1 hR.out hr0 hsl0;refine(vC a0 1 _ (T4.below e.h) (O4.below e.h) (by have:=T4.vU;unfold maxLen;omega) (by omega) (by omega)).mono ?_;rintro _ W9 ⟨kx0,rfl,hkx0,M9,f9,V9⟩;have pkx0:0≤kx0:=by have:=hkx0.out;omega
 have hsW9:=f9.size;have hszW9:=e.h.size
 replace ta0:=T1.zR (ta0.below e.h) f9 (fun y hy hm=>by have h1:=loa0 y hy;have h2:=lo4 y hm;omega)
 replace T3_0:=T1.zR (T3_0.below e.h) f9 (fun y hy hm=>by have h1:=lo3_0 y hy;have h2:=lo4 y hm;omega)
 replace O5_0:=(O5_0.below e.h).zR f9
 replace T5_0:=T1.zR (T5_0.below e.h) f9 (fun y hy hm=>by have h1:=lo5_0 y hy;have h2:=lo4 y hm;omega)
 have hB9:Ext w W9:=Below.trans (Ext.trans hy14 e.h) (lS.below f9 (Ext.trans hy14 e.h).size (fun y hm=>by have:=lo4 y hm;have:=(Ext.trans hy14 e.h).size;omega));obtain⟨e,he⟩:∃e:aU W9,W9=e.to:=⟨⟨W9,Below.refl _ _⟩,rfl⟩;rw[he];clear he;have bdkx0:kx0≤36028797018963968:=by have:=hkx0.out;omega
 go_wp2_with fail
 refine(vM r0 r0 _ (T5_0.below e.h) (T3_0.below e.h) (by have:=T5_0.vU;unfold maxLen;omega) (by have:=T5_0.vU;unfold maxLen;omega)).mono ?_;rintro _ W10 ⟨rfl,z10⟩;have hq15:=Ext.trans e.h z10;have hs15:=hq15.size
 replace ta0:=ta0.below hq15
 replace T3_0:=T3_0.below hq15
 replace T5_0:=T5_0.below hq15
 replace O5_0:=O5_0.below hq15
 have hy16:=Ext.trans hB9 hq15;obtain⟨e,he⟩:∃e:aU W10,W10=e.to:=⟨⟨W10,Below.refl _ _⟩,rfl⟩;rw[he];clear he
 go_wp2_with fail
 refine(ED r0 1 _ (T5_0.below e.h) (O5_0.below e.h) (by have:=T5_0.vU;unfold maxLen;omega) (by omega) (by omega)).mono ?_;rintro _ W11 ⟨mg0,rfl,hmg0,M11,f11,V11⟩;have pmg0:0≤mg0:=by have:=hmg0.out;omega
 have hsW11:=f11.size;have hszW11:=e.h.size
 replace ta0:=T1.zR (ta0.below e.h) f11 (fun y hy hm=>by have h1:=loa0 y hy;have h2:=lo5_0 y hm;omega)
 replace T3_0:=T1.zR (T3_0.below e.h) f11 (fun y hy hm=>by have h1:=lo3_0 y hy;have h2:=lo5_0 y hm;omega)
 have hB11:Ext w W11:=Below.trans (Ext.trans hy16 e.h) (lS.below f11 (Ext.trans hy16 e.h).size (fun y hm=>by have:=lo5_0 y hm;have:=(Ext.trans hy16 e.h).size;omega));obtain⟨e,he⟩:∃e:aU W11,W11=e.to:=⟨⟨W11,Below.refl _ _⟩,rfl⟩;rw[he];clear he;have bdmg0:mg0≤72057594037927936:=by have:=hmg0.out;omega
 have O5_0:=V11;have CH0:Hid (QC Try.prog W11 _ _ _):=fun W hW=>wU r0 1 mg0 r0.length W (M11.below hW) kH (by omega) (by omega) hmg0
 go_wp2_with (first|(go_at_call 17;with_reducible refine(CH0.out.at_ _).mono ?_;rintro _ _ ⟨rfl,e,rfl⟩))
 clear CH0
 go_wp2_with fail
 refine(iW a0 _ (ta0.below e.h) hsl0).mono ?_;rintro _ W12 ⟨YK,D12,q12,rfl,z12,T12,O12⟩;have lo12:∀b∈q12,e.to.heap.size≤b∧b<W12.heap.size:=fun b hb=>⟨(O12.2 b hb).1,T12.lt b hb⟩
 have sz12:=e.h.size;have sw12:=(Ext.trans hB11 e.h).size;have hq17:=Ext.trans e.h z12;have hs17:=hq17.size
 replace ta0:=ta0.below hq17
 replace T3_0:=T3_0.below hq17
 replace M11:=M11.below hq17
 replace O5_0:=O5_0.below hq17
 have hy18:=Ext.trans hB11 hq17;obtain⟨e,he⟩:∃e:aU W12,W12=e.to:=⟨⟨W12,Below.refl _ _⟩,rfl⟩;rw[he];clear he
 go_wp2_with fail
 refine(mQ a0 r0 r1 hR _ (T12.below e.h) hr0 hsl0).mono ?_;rintro _ W13 ⟨B13_0,D13_0,q13_0,rfl,z13,T13_0,O13⟩;have O13_0:=O13;have lo13_0:∀b∈q13_0,e.to.heap.size≤b∧b<W13.heap.size:=fun b hb=>⟨(O13_0.2 b hb).1,T13_0.lt b hb⟩
 have sz13:=e.h.size;have sw13:=(Ext.trans hy18 e.h).size;have hq19:=Ext.trans e.h z13;have hs19:=hq19.size
 replace ta0:=ta0.below hq19
 replace T3_0:=T3_0.below hq19
 replace M11:=M11.below hq19
 replace T12:=T12.below hq19
 replace O5_0:=O5_0.below hq19
 replace O12:=O12.below hq19
 have hy20:=Ext.trans hy18 hq19;obtain⟨e,he⟩:∃e:aU W13,W13=e.to:=⟨⟨W13,Below.refl _ _⟩,rfl⟩;rw[he];clear he
 go_wp2_with fail
 refine(vM r0 r0 _ (T13_0.below e.h) (T3_0.below e.h) (by have:=T13_0.vU;unfold maxLen;omega) (by have:=T13_0.vU;unfold maxLen;omega)).mono ?_;rintro _ W14 ⟨rfl,z14⟩;have hq21:=Ext.trans e.h z14;have hs21:=hq21.size
 replace ta0:=ta0.below hq21
 replace T3_0:=T3_0.below hq21
 replace M11:=M11.below hq21
 replace T13_0:=T13_0.below hq21
 replace O5_0:=O5_0.below hq21
 replace O13_0:=O13_0.below hq21
 have hy22:=Ext.trans hy20 hq21;obtain⟨e,he⟩:∃e:aU W14,W14=e.to:=⟨⟨W14,Below.refl _ _⟩,rfl⟩;rw[he];clear he;have CH0:Hid (QC Try.prog W14 _ _ _):=fun W hW=>wU r0 1 mg0 r0.length W (M11.below hW) kH (by omega) (by omega) hmg0
 go_wp2_with (first|(go_at_call 17;with_reducible refine(CH0.out.at_ _).mono ?_;rintro _ _ ⟨rfl,e,rfl⟩))
 clear CH0
 go_wp2_with fail
 go_ret;exact⟨rfl,aU.old hy22 e⟩
end Go.Proofs.Ytdpclbjjmhkgiaa
