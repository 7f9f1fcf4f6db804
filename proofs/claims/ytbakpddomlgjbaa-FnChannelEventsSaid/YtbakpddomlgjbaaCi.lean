
/- Channels: copies; the search among what came early. -/
import Derived.Test.YtbakpddomlgjbaaCg
import Derived.Test.YtbakpddomlgjbaaCh
set_option linter.unusedSimpArgs false
set_option linter.unusedVariables false
namespace Go.Proofs.Ytbakpddomlgjbaa
open Go Go.RowKit Go.Proofs Go.Tr
theorem KS:aU Try.prog 58=true:=by kernel_rfl
theorem FC(xs:List ByteArray)(hx:xs.length<=1048576):au Try.prog 58 [.rsl .str xs] [] (.sl 10000) [.row 10000 9 1 .str xs []]:=by
 refine au.Pn (fun he c=> ?_) ?_
 .subst he;refine au.intro (nt:=8) aC mixed KS Try.func58 rfl rfl rfl rfl rfl rfl ?_;refine aI (fun h1=> ?_) (fun h1=>by cases h1);refine OO [⟨2,30000,9,1,.str⟩] [(10000,30000)] (aI rfl ?_);exact⟨⟨rfl,nP⟩,trivial⟩
 .refine au.intro (nt:=8) aC mixed KS Try.func58 rfl rfl rfl rfl rfl rfl ?_;refine aI (fun h1=>by cases h1) (fun h1=> ?_);refine aI (by show 0+xs.length<=_;omega) ?_;refine fin [(10000,7)] (aI rfl ?_);exact⟨⟨rfl,nP⟩,trivial⟩
theorem KR:aU Try.prog 59=true:=by kernel_rfl
theorem FB(xs:List fF)(hx:xs.length<=1048576):au Try.prog 59 [.rsl aK xs] [] (.sl 10000) [.row 10000 42 3 aK xs []]:=by
 refine au.Pn (fun he c=> ?_) ?_
 .subst he;refine au.intro (nt:=8) aC mixed KR Try.func59 rfl rfl rfl rfl rfl rfl ?_;refine aI (fun h1=> ?_) (fun h1=>by cases h1);refine OO [⟨2,30000,42,3,aK⟩] [(10000,30000)] (aI rfl ?_);exact⟨⟨rfl,nP⟩,trivial⟩
 .refine au.intro (nt:=8) aC mixed KR Try.func59 rfl rfl rfl rfl rfl rfl ?_;refine aI (fun h1=>by cases h1) (fun h1=> ?_);refine aI (by show 0+xs.length<=_;omega) ?_;refine fin [(10000,7)] (aI rfl ?_);exact⟨⟨rfl,nP⟩,trivial⟩
abbrev oO(g k d f:Nat)(ms:List ByteArray)(s:eB):List SV:=[.int .i64 (s.w:Nat),.sl g,.int .i64 (s.b:Nat),.int .i64 (s.n:Nat),.int .i64 (s.e:Nat),.sl k,.sl d,.sl f]
abbrev rT(g:Nat)(xs:List ByteArray):Tok:=.row g 9 1 .str xs []
abbrev rP(g:Nat)(xs:List fF):Tok:=.row g 42 3 aK xs []
abbrev rK(g:Nat)(xs:List fF):Tok:=.suf g 42 3 aK xs
theorem KU:aU Try.prog 28=true:=by kernel_rfl
theorem BX:aU Try.prog 44=true:=by kernel_rfl
section
variable {ms:List ByteArray}{s:eB}
set_option maxRecDepth 100000 in
theorem CW(h:aW ms s):au Try.prog 28 [yt (toN ms s)] [] (.agg (oO 10000 10001 10002 10003 ms s)) [rT 10000 ms,rP 10001 (s.ks.map (bV ms)),rT 10002 (ms.take s.e),rP 10003 (s.fl.map (bC ms))]:=by
 have h5:=h.m30;have h8:=h.fl60;have hk:=jP h;refine au.intro (nt:=20) aC mixed KU Try.func28 rfl rfl rfl rfl rfl rfl ?_;refine oY (FC ms (by omega)) ?_;refine oY (FB (s.ks.map (bV ms)) (by rw[qV];omega)) ?_;refine oY (FC (ms.take s.e) (by rw[List.length_take];omega)) ?_;refine oY (FB (s.fl.map (bC ms)) (by rw[qV];omega)) ?_;refine aI (by kernel_rfl) ?_;refine fin [(10000,5),(10001,8),(10002,11),(10003,14)] (aI rfl ?_);exact⟨⟨rfl,nP⟩,⟨rfl,nP⟩,⟨rfl,nP⟩,⟨rfl,nP⟩,trivial⟩
set_option maxRecDepth 100000 in
theorem Py(h:aW ms s):au Try.prog 44 [.rp eZ (toN ms s)] [] (.agg (oO 10000 10001 10002 10003 ms s)) [rT 10000 ms,rP 10001 (s.ks.map (bV ms)),rT 10002 (ms.take s.e),rP 10003 (s.fl.map (bC ms))]:=by
 have h5:=h.m30;have h8:=h.fl60;have hk:=jP h;refine au.intro (nt:=36) aC mixed BX Try.func44 rfl rfl rfl rfl rfl rfl ?_;refine aI (by show 0+ms.length<=1073741824;omega) ?_;refine aI (by show 0+(ms.take s.e).length<=1073741824;rw[List.length_take];omega) ?_;refine aI (by show 0+(s.ks.map (bV ms)).length<=1073741824;rw[qV];omega) ?_;refine aI (by show 0+(s.fl.map (bC ms)).length<=1073741824;rw[qV];omega) ?_;refine fin [(10000,12),(10001,26),(10002,19),(10003,33)] (aI rfl ?_);exact⟨⟨rfl,nP⟩,⟨rfl,nP⟩,⟨rfl,nP⟩,⟨rfl,nP⟩,trivial⟩
end
end Go.Proofs.Ytbakpddomlgjbaa
