
/- Decimals: strconv.FormatInt and ParseInt, Decimal and ReadDecimal. -/
import Derived.Test.YtpdipfohnpopmaaDoorAc
import Derived.Test.YtpdipfohnpopmaaDoorAe
import Derived.Shelf.Strconv.Itoa4
import Derived.Shelf.Strconv.ErrVarParseInt
import Derived.Lib.AppendIntMem
set_option linter.unusedSimpArgs false
set_option linter.unusedVariables false
namespace Go.Proofs.YtpdipfohnpopmaaDoor
open Go Go.RowKit Go.Proofs Go.Tr
def Dy:Go.Shelf.Ren:=⟨fun|173=>30|246=>39|283=>45|284=>46|285=>47|286=>48|129=>55|317=>54|318=>56|319=>57|320=>58|337=>60|338=>61|n=>n,fun|2=>2|3=>3|9=>9|4=>4|171=>62|0=>0|53=>39|37=>22|5=>5|173=>65|212=>74|51=>38|20=>20|213=>75|46=>54|232=>83|233=>84|n=>n,fun|17=>2|18=>3|19=>4|n=>n⟩
theorem Eu:Go.Proofs.LaysM.n173 Tryd.prog Dy where
 mixed:=by kernel_rfl
 f129:=Tryd.func55.trans (congrArg some (by kernel_rfl))
 f173:=Tryd.func30.trans (congrArg some (by kernel_rfl))
 f246:=Tryd.func39.trans (congrArg some (by kernel_rfl))
 f283:=Tryd.func45.trans (congrArg some (by kernel_rfl))
 f284:=Tryd.func46.trans (congrArg some (by kernel_rfl))
 f285:=Tryd.func47.trans (congrArg some (by kernel_rfl))
 f286:=Tryd.func48.trans (congrArg some (by kernel_rfl))
 f317:=Tryd.func54.trans (congrArg some (by kernel_rfl))
 f318:=Tryd.func56.trans (congrArg some (by kernel_rfl))
 f319:=Tryd.func57.trans (congrArg some (by kernel_rfl))
 f320:=Tryd.func58.trans (congrArg some (by kernel_rfl))
 f337:=Tryd.func60.trans (congrArg some (by kernel_rfl))
 f338:=Tryd.func61.trans (congrArg some (by kernel_rfl))
 t0:=Tryd.underlying0
 a0:=Tryd.isAgg0
 z0:=Tryd.sizeOf0
 v0:=Tryd.zeroValue0
 t2:=Tryd.underlying2
 a2:=Tryd.isAgg2
 z2:=Tryd.sizeOf2
 v2:=Tryd.zeroValue2
 t3:=Tryd.underlying3
 a3:=Tryd.isAgg3
 z3:=Tryd.sizeOf3
 v3:=Tryd.zeroValue3
 t4:=Tryd.underlying4
 a4:=Tryd.isAgg4
 z4:=Tryd.sizeOf4
 v4:=Tryd.zeroValue4
 t5:=Tryd.underlying5
 a5:=Tryd.isAgg5
 z5:=Tryd.sizeOf5
 v5:=Tryd.zeroValue5
 t9:=Tryd.underlying9
 a9:=Tryd.isAgg9
 z9:=Tryd.sizeOf9
 v9:=Tryd.zeroValue9
 t20:=Tryd.underlying20
 a20:=Tryd.isAgg20
 z20:=Tryd.sizeOf20
 v20:=Tryd.zeroValue20
 t37:=Tryd.underlying22
 a37:=Tryd.isAgg22
 z37:=Tryd.sizeOf22
 v37:=Tryd.zeroValue22
 t46:=Tryd.underlying54
 a46:=Tryd.isAgg54
 z46:=Tryd.sizeOf54
 v46:=Tryd.zeroValue54
 t51:=Tryd.underlying38
 a51:=Tryd.isAgg38
 z51:=Tryd.sizeOf38
 v51:=Tryd.zeroValue38
 t53:=Tryd.underlying39
 a53:=Tryd.isAgg39
 z53:=Tryd.sizeOf39
 v53:=Tryd.zeroValue39
 t171:=Tryd.underlying62
 a171:=Tryd.isAgg62
 z171:=Tryd.sizeOf62
 v171:=Tryd.zeroValue62
 t173:=Tryd.underlying65
 a173:=Tryd.isAgg65
 z173:=Tryd.sizeOf65
 v173:=Tryd.zeroValue65
 t212:=Tryd.underlying74
 a212:=Tryd.isAgg74
 z212:=Tryd.sizeOf74
 v212:=Tryd.zeroValue74
 t213:=Tryd.underlying75
 a213:=Tryd.isAgg75
 z213:=Tryd.sizeOf75
 t232:=Tryd.underlying83
 a232:=Tryd.isAgg83
 z232:=Tryd.sizeOf83
 v232:=Tryd.zeroValue83
 t233:=Tryd.underlying84
 a233:=Tryd.isAgg84
 z233:=Tryd.sizeOf84
 v233:=Tryd.zeroValue84
 g17:=by kernel_rfl
 g18:=by kernel_rfl
 g19:=by kernel_rfl
 i0:=by kernel_rfl
 i2:=by kernel_rfl
 i3:=by kernel_rfl
 i4:=by kernel_rfl
 i5:=by kernel_rfl
 i9:=by kernel_rfl
 i20:=by kernel_rfl
 i37:=by kernel_rfl
 i46:=by kernel_rfl
 i51:=by kernel_rfl
 i53:=by kernel_rfl
 i171:=by kernel_rfl
 i173:=by kernel_rfl
 i212:=by kernel_rfl
 i232:=by kernel_rfl
 i233:=by kernel_rfl
 m17:=by kernel_rfl
 m18:=by kernel_rfl
 m19:=by kernel_rfl
def DC:Go.Shelf.Ren:=⟨fun|174=>28|247=>37|245=>38|287=>40|279=>41|280=>42|281=>43|282=>44|321=>49|322=>50|316=>51|171=>53|205=>52|243=>59|246=>39|283=>45|284=>46|285=>47|286=>48|129=>55|317=>54|318=>56|319=>57|320=>58|337=>60|338=>61|n=>n,fun|9=>9|3=>3|2=>2|75=>42|85=>43|4=>4|167=>55|5=>5|53=>39|175=>56|46=>54|168=>58|37=>22|0=>0|210=>70|21=>21|127=>78|145=>81|143=>79|171=>62|173=>65|212=>74|51=>38|20=>20|213=>75|232=>83|233=>84|80=>85|n=>n,fun|15=>0|16=>1|17=>2|18=>3|19=>4|n=>n⟩
theorem Dz:Go.Proofs.LaysC.n174 Tryd.prog DC where
 mixed:=by kernel_rfl
 f129:=Tryd.func55.trans (congrArg some (by kernel_rfl))
 f171:=Tryd.func53.trans (congrArg some (by kernel_rfl))
 f174:=Tryd.func28.trans (congrArg some (by kernel_rfl))
 f205:=Tryd.func52.trans (congrArg some (by kernel_rfl))
 f243:=Tryd.func59.trans (congrArg some (by kernel_rfl))
 f245:=Tryd.func38.trans (congrArg some (by kernel_rfl))
 f246:=Tryd.func39.trans (congrArg some (by kernel_rfl))
 f247:=Tryd.func37.trans (congrArg some (by kernel_rfl))
 f279:=Tryd.func41.trans (congrArg some (by kernel_rfl))
 f280:=Tryd.func42.trans (congrArg some (by kernel_rfl))
 f281:=Tryd.func43.trans (congrArg some (by kernel_rfl))
 f282:=Tryd.func44.trans (congrArg some (by kernel_rfl))
 f283:=Tryd.func45.trans (congrArg some (by kernel_rfl))
 f284:=Tryd.func46.trans (congrArg some (by kernel_rfl))
 f285:=Tryd.func47.trans (congrArg some (by kernel_rfl))
 f286:=Tryd.func48.trans (congrArg some (by kernel_rfl))
 f287:=Tryd.func40.trans (congrArg some (by kernel_rfl))
 f316:=Tryd.func51.trans (congrArg some (by kernel_rfl))
 f317:=Tryd.func54.trans (congrArg some (by kernel_rfl))
 f318:=Tryd.func56.trans (congrArg some (by kernel_rfl))
 f319:=Tryd.func57.trans (congrArg some (by kernel_rfl))
 f320:=Tryd.func58.trans (congrArg some (by kernel_rfl))
 f321:=Tryd.func49.trans (congrArg some (by kernel_rfl))
 f322:=Tryd.func50.trans (congrArg some (by kernel_rfl))
 f337:=Tryd.func60.trans (congrArg some (by kernel_rfl))
 f338:=Tryd.func61.trans (congrArg some (by kernel_rfl))
 t0:=Tryd.underlying0
 a0:=Tryd.isAgg0
 z0:=Tryd.sizeOf0
 v0:=Tryd.zeroValue0
 t2:=Tryd.underlying2
 a2:=Tryd.isAgg2
 z2:=Tryd.sizeOf2
 v2:=Tryd.zeroValue2
 t3:=Tryd.underlying3
 a3:=Tryd.isAgg3
 z3:=Tryd.sizeOf3
 v3:=Tryd.zeroValue3
 t4:=Tryd.underlying4
 a4:=Tryd.isAgg4
 z4:=Tryd.sizeOf4
 v4:=Tryd.zeroValue4
 t5:=Tryd.underlying5
 a5:=Tryd.isAgg5
 z5:=Tryd.sizeOf5
 v5:=Tryd.zeroValue5
 t9:=Tryd.underlying9
 a9:=Tryd.isAgg9
 z9:=Tryd.sizeOf9
 v9:=Tryd.zeroValue9
 t20:=Tryd.underlying20
 a20:=Tryd.isAgg20
 z20:=Tryd.sizeOf20
 v20:=Tryd.zeroValue20
 t21:=Tryd.underlying21
 a21:=Tryd.isAgg21
 z21:=Tryd.sizeOf21
 v21:=Tryd.zeroValue21
 t37:=Tryd.underlying22
 a37:=Tryd.isAgg22
 z37:=Tryd.sizeOf22
 v37:=Tryd.zeroValue22
 t46:=Tryd.underlying54
 a46:=Tryd.isAgg54
 z46:=Tryd.sizeOf54
 v46:=Tryd.zeroValue54
 t51:=Tryd.underlying38
 a51:=Tryd.isAgg38
 z51:=Tryd.sizeOf38
 v51:=Tryd.zeroValue38
 t53:=Tryd.underlying39
 a53:=Tryd.isAgg39
 z53:=Tryd.sizeOf39
 v53:=Tryd.zeroValue39
 t75:=Tryd.underlying42
 a75:=Tryd.isAgg42
 z75:=Tryd.sizeOf42
 v75:=Tryd.zeroValue42
 t85:=Tryd.underlying43
 a85:=Tryd.isAgg43
 z85:=Tryd.sizeOf43
 v85:=Tryd.zeroValue43
 t127:=Tryd.underlying78
 a127:=Tryd.isAgg78
 z127:=Tryd.sizeOf78
 v127:=Tryd.zeroValue78
 t143:=Tryd.underlying79
 a143:=Tryd.isAgg79
 z143:=Tryd.sizeOf79
 v143:=Tryd.zeroValue79
 t145:=Tryd.underlying81
 a145:=Tryd.isAgg81
 z145:=Tryd.sizeOf81
 v145:=Tryd.zeroValue81
 t167:=Tryd.underlying55
 a167:=Tryd.isAgg55
 z167:=Tryd.sizeOf55
 v167:=Tryd.zeroValue55
 t168:=Tryd.underlying58
 a168:=Tryd.isAgg58
 z168:=Tryd.sizeOf58
 v168:=Tryd.zeroValue58
 t171:=Tryd.underlying62
 a171:=Tryd.isAgg62
 z171:=Tryd.sizeOf62
 v171:=Tryd.zeroValue62
 t173:=Tryd.underlying65
 a173:=Tryd.isAgg65
 z173:=Tryd.sizeOf65
 v173:=Tryd.zeroValue65
 t175:=Tryd.underlying56
 a175:=Tryd.isAgg56
 z175:=Tryd.sizeOf56
 v175:=Tryd.zeroValue56
 t210:=Tryd.underlying70
 a210:=Tryd.isAgg70
 z210:=Tryd.sizeOf70
 v210:=Tryd.zeroValue70
 t212:=Tryd.underlying74
 a212:=Tryd.isAgg74
 z212:=Tryd.sizeOf74
 v212:=Tryd.zeroValue74
 t213:=Tryd.underlying75
 a213:=Tryd.isAgg75
 z213:=Tryd.sizeOf75
 t232:=Tryd.underlying83
 a232:=Tryd.isAgg83
 z232:=Tryd.sizeOf83
 v232:=Tryd.zeroValue83
 t233:=Tryd.underlying84
 a233:=Tryd.isAgg84
 z233:=Tryd.sizeOf84
 v233:=Tryd.zeroValue84
 g15:=by kernel_rfl
 g16:=by kernel_rfl
 g17:=by kernel_rfl
 g18:=by kernel_rfl
 g19:=by kernel_rfl
 t80:=Tryd.underlying85
 a80:=Tryd.isAgg85
 z80:=Tryd.sizeOf85
 v80:=Tryd.zeroValue85
 i0:=by kernel_rfl
 i2:=by kernel_rfl
 i3:=by kernel_rfl
 i4:=by kernel_rfl
 i5:=by kernel_rfl
 i9:=by kernel_rfl
 i20:=by kernel_rfl
 i21:=by kernel_rfl
 i37:=by kernel_rfl
 i46:=by kernel_rfl
 i51:=by kernel_rfl
 i53:=by kernel_rfl
 i75:=by kernel_rfl
 i80:=by kernel_rfl
 i85:=by kernel_rfl
 i127:=by kernel_rfl
 i143:=by kernel_rfl
 i145:=by kernel_rfl
 i167:=by kernel_rfl
 i168:=by kernel_rfl
 i171:=by kernel_rfl
 i173:=by kernel_rfl
 i175:=by kernel_rfl
 i210:=by kernel_rfl
 i212:=by kernel_rfl
 i232:=by kernel_rfl
 i233:=by kernel_rfl
 m15:=by kernel_rfl
 m16:=by kernel_rfl
 m17:=by kernel_rfl
 m18:=by kernel_rfl
 m19:=by kernel_rfl
 c0:=by kernel_rfl
 c2:=by kernel_rfl
 c3:=by kernel_rfl
 c4:=by kernel_rfl
 c5:=by kernel_rfl
 c9:=by kernel_rfl
 c20:=by kernel_rfl
 c21:=by kernel_rfl
 c37:=by kernel_rfl
 c46:=by kernel_rfl
 c51:=by kernel_rfl
 c53:=by kernel_rfl
 c75:=by kernel_rfl
 c80:=by kernel_rfl
 c85:=by kernel_rfl
 c127:=by kernel_rfl
 c143:=by kernel_rfl
 c145:=by kernel_rfl
 c167:=by kernel_rfl
 c168:=by kernel_rfl
 c171:=by kernel_rfl
 c173:=by kernel_rfl
 c175:=by kernel_rfl
 c210:=by kernel_rfl
 c212:=by kernel_rfl
 c213:=by kernel_rfl
 c232:=by kernel_rfl
 c233:=by kernel_rfl
theorem Dr{cx:Cx}{β:Nat->Value}{s:SV}{v:Value}(h:Den cx β s v):ah cx β [s] [v]:=by unfold ah;exact⟨v,[],rfl,h,by unfold ah;rfl⟩
theorem Dl{P:Program}{f:Nat}{s:SV}{b:Bool}(h:aD P f [s] (.bool b)){cx:Cx}{β:Nat->Value}{w:World}{fr:List aM}{v:Value}(hI:Inv cx.w0 cx.F0 w fr)(hd:Den cx β s v):Calls P f #[v] w fun e w'=>e=.returned (.bool b)/\Inv cx.w0 cx.F0 w' fr:=
 (h.2 cx β w fr [v] hI (Dr hd)).mono fun _ _ ⟨v',h1,h2,h3⟩=>⟨by unfold Den at h2;rw[h1,h2],h3⟩
theorem Dm{P:Program}{f:Nat}{s:SV}{b:ByteArray}(h:aD P f [s] (.raw (.string b))){cx:Cx}{β:Nat->Value}{w:World}{fr:List aM}{v:Value}(hI:Inv cx.w0 cx.F0 w fr)(hd:Den cx β s v):Calls P f #[v] w fun e w'=>e=.returned (.string b)/\Inv cx.w0 cx.F0 w' fr:=
 (h.2 cx β w fr [v] hI (Dr hd)).mono fun _ _ ⟨v',h1,h2,h3⟩=>⟨by unfold Den at h2;rw[h1,h2.1],h3⟩
theorem yH(cx:Cx){w:World}{fr:List aM}(hI:Inv cx.w0 cx.F0 w fr):EM w []:=(cx.Eh hI).ok
theorem fmtQ(n:Int)(h0: -9223372036854775808<=n)(h1:n<=9223372036854775807):aD Tryd.prog 30 [.int .i64 n,.int .i64 10] (.raw (.string (iN n))):=by
 refine⟨(by kernel_rfl),fun cx β w fr vs hI hd=> ?_⟩;unfold ah at hd;obtain⟨v1,vs1,rfl,e1,hd⟩:=hd;unfold ah at hd;obtain⟨v2,vs2,rfl,e2,hd⟩:=hd;unfold ah at hd;unfold Den at e1 e2;subst hd e1 e2;refine(Any.strconv_FormatInt_10 Eu n h0 h1 w (yH cx hI).1).mono ?_;rintro e w' ⟨rfl,k,os,rfl⟩;exact⟨_,rfl,by unfold Den;exact⟨rfl,rfl⟩,hI.ext (Lib.below_grow _ _ (Nat.le_refl _) _ _)⟩
theorem BZ(n:Int)(h0: -9223372036854775808<=n)(h1:n<=9223372036854775807):aD Tryd.prog 14 [.int .i64 n] (.raw (.string (iN n))):=by
 refine aD.intro (nt:=5) aZ mixed (by kernel_rfl) Tryd.func14 rfl rfl rfl rfl rfl ?_;refine oZ (fmtQ n h0 h1) ?_;exact rfl
theorem Ck(n:Int)(h0: -2147483648<=n)(h1:n<=2147483647):aD Tryd.prog 29 [.int .i64 n] (.bool true):=by
 have:(bif decide (-2147483648<=n)then decide (n<=2147483647)else false)=true:=by rw[decide_eq_true h0,decide_eq_true h1];rfl
 rw[<-this];refine aD.intro (nt:=9) aZ mixed (by kernel_rfl) Tryd.func29 rfl rfl rfl rfl rfl ?_;exact rfl
theorem DJ:dI Tryd.prog 13=true:=by kernel_rfl
theorem Br{cx:Cx}{β:Nat->Value}{s:ByteArray}{vs:aO}(h:ah cx β [.raw (.string s)] vs):vs=[.string s]:=by
 unfold ah at h;obtain⟨v1,vs1,rfl,e1,hd⟩:=h;unfold ah at hd;unfold Den at e1;obtain⟨rfl,_⟩:=e1;subst hd;rfl
theorem tX{cx:Cx}{β:Nat->Value}{i:Int}{b:Bool}:Den cx β (.tup [.int .i64 i,.bool b]) (.tuple #[.int .i64 i,.bool b]):=by
 unfold Den ah ah ah;exact⟨[_,_],rfl,_,_,rfl,by unfold Den;rfl,_,_,rfl,by unfold Den;rfl,rfl⟩
theorem AZ(s:ByteArray)(hs:s.size<=1000)(h:Lib.parseIntB 64 s.data.toList= .«syntax»):aD Tryd.prog 13 [.raw (.string s)] (.tup [.int .i64 0,.bool false]):=by
 refine⟨DJ,fun cx β w fr vs hI hd=> ?_⟩;rw[Br hd];obtain⟨_,⟨tp,p,hv⟩,_,_⟩:=yH cx hI
 go_enter Tryd.func13,Tryd.ntmps13
 go_wp2_with fail
 refine(Any.strconv_ParseInt_10_at64_syntax_var Dz s (by omega) h tp p w hv).mono ?_;rintro e w1 ⟨N,rfl,_,_,hx⟩
 go_wp2_with fail
 go_ret2
 exact⟨_,rfl,tX,hI.ext hx⟩
theorem zu(s:ByteArray)(n:Int)(hs:s.size<=1000)(h:Lib.parseIntB 64 s.data.toList=.ok n)(h0: -2147483648<=n)(h1:n<=2147483647):aD Tryd.prog 13 [.raw (.string s)] (.tup [.int .i64 (bif decide (iN n=s)then n else 0),.bool (decide (iN n=s))]):=by
 refine⟨DJ,fun cx β w fr vs hI hd=> ?_⟩;rw[Br hd]
 go_enter Tryd.func13,Tryd.ntmps13
 go_wp2_with fail
 refine(Any.strconv_ParseInt_10_at64_ok Dz s (by omega) n h w).mono ?_;rintro e w1 ⟨rfl,hx⟩
 have hI1:Inv cx.w0 cx.F0 w1 fr:=hI.ext (by
  rcases hx with rfl|⟨t,rfl⟩
  .exact Below.refl _ _
  .exact Lib.bytesWorld_below _ _ _)
 clear hx
 go_wp2_with fail
 refine(Dl (β:=β) (Ck n h0 h1) hI1 (by unfold Den;rfl)).mono ?_;rintro e w2 ⟨rfl,hI2⟩
 go_wp2_with fail
 refine(Dm (β:=β) (BZ n (by omega) (by omega)) hI2 (by unfold Den;rfl)).mono ?_;rintro e w3 ⟨rfl,hI3⟩;have hq:=fU (iN n) s;cases hb:decide (iN n=s)with
 |true=>
  rw[hb]at hq
  go_wp2_with (simp only[hq,Bool.not_true])
  all_goals first|(exfalso;simp_all;done)|skip
  go_ret2
  refine⟨_,rfl,?_,hI3⟩;rw[hb];exact tX
 |false=>
  rw[hb]at hq
  go_wp2_with (simp only[hq,Bool.not_false])
  all_goals first|(exfalso;simp_all;done)|skip
  go_ret2
  refine⟨_,rfl,?_,hI3⟩;rw[hb];exact tX
end Go.Proofs.YtpdipfohnpopmaaDoor
