
/- The symbolic machine with calls that leave data which is never written again: later bases. -/
import Derived.Test.YtpdipfohnpopmaaDoorVX
set_option linter.unusedSimpArgs false
set_option linter.unusedVariables false
namespace Go.Tr
open Go Go.RowKit
universe u
section
variable {cx cx':Cx}{β β':Nat->Value}{P:Program}{ti:TI}{n:Nat}{a:Act}{env:Ev}{rs:List Tok}{fr:List aM}{w w':World}
mutual
theorem Den.imp(hs:∀{d:D} {v:Value},dB cx.w0 cx.F0 d v->dB cx'.w0 cx'.F0 d v)(hp:∀{b o:Nat} {ds:List D},kR cx.w0 cx.F0 b o ds->kR cx'.w0 cx'.F0 b o ds):∀{s:SV} {v:Value},Den cx β s v->Den cx' β s v
 | .int _ _,v,h| .bool _,v,h| .raw _,v,h| .ptr _ _,v,h| .sl _,v,h| .ep _ _ _ _,v,h| .un,v,h| .nh _ _ _ _,v,h| .np _ _ _ _ _ _ _,v,h| .mp _,v,h| .sx _ _ _ _,v,h| .gd _ _ _,v,h=>by unfold Den at h |-;exact h
 | .rsl e xs,v,h=>by unfold Den at h |-;exact hs h
 | .rp u x,v,h=>by unfold Den at h |-;obtain⟨b,o,e,h1⟩:=h;exact⟨b,o,e,hp h1⟩
 | .nn e xs,v,h=>by unfold Den at h |-;exact⟨hs h.1,h.2⟩
 | .agg l,v,h=>by unfold Den at h |-;obtain⟨us,e,h1⟩:=h;exact⟨us,e,ah.imp hs hp h1⟩
 | .tup l,v,h=>by unfold Den at h |-;obtain⟨us,e,h1⟩:=h;exact⟨us,e,ah.imp hs hp h1⟩
 | .fn f l,v,h=>by unfold Den at h |-;obtain⟨us,e,h1⟩:=h;exact⟨us,e,ah.imp hs hp h1⟩
theorem ah.imp(hs:∀{d:D} {v:Value},dB cx.w0 cx.F0 d v->dB cx'.w0 cx'.F0 d v)(hp:∀{b o:Nat} {ds:List D},kR cx.w0 cx.F0 b o ds->kR cx'.w0 cx'.F0 b o ds):∀{l:List SV} {us:aO},ah cx β l us->ah cx' β l us
 |[],us,h=>by unfold ah at h |-;exact h
 |s::l,us,h=>by
  unfold ah at h |-;obtain⟨v,vs',h1,h2,h3⟩:=h;exact⟨v,vs',h1,Den.imp hs hp h2,ah.imp hs hp h3⟩
end
section
variable {G1 G:aK}{ts:List Tok}{dt:Bool}
end
end
section
variable {cx cx':Cx}{β β':Nat->Value}{P:Program}{ti:TI}{n:Nat}{a:Act}{env:Ev}{rs:List Tok}{fr:List aM}{w w':World}{dst:Option Nat}{ty:TypeId}{pos:String}{aft:Array Edge}{gd:Option (Nat×Bool)}
end
end Go.Tr
