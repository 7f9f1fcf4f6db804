
/- Channels: the data of a channel, packets that may be on their way. -/
import Derived.Test.YtbakpddomlgjbaaVU
import Derived.Test.YtbakpddomlgjbaaVti
set_option linter.unusedSimpArgs false
set_option linter.unusedVariables false
namespace Go.Proofs.Ytbakpddomlgjbaa
open Go Go.RowKit Go.Proofs Go.Tr
theorem sQ{a b:Nat}(h:decide (((a:Nat):Int)<((b:Nat):Int))=true):a<b:=by have:=of_decide_eq_true h;omega
theorem Gf{a b:Nat}(h:decide (((a:Nat):Int)<((b:Nat):Int))=false):b<=a:=by have:=of_decide_eq_false h;omega
theorem iM{k:Nat}(h:k<1000000000000):IntKind.i64.wrap ((k:Int)+1)=((k+1:Nat):Int):=yu (by omega)
theorem oJ{x:Int}(h: -9223372036854775808<=x/\x<=9223372036854775807):IntKind.i64.wrap x=x:=qO _ h
abbrev aK:U:=.pair .bool (.pair (.int .i64) .str)
abbrev fF:Type:=Bool×Int×ByteArray
abbrev eZ:U:=.pair (.int .i64) (.pair (.sl .str) (.pair (.int .i64) (.pair (.int .i64) (.pair (.int .i64) (.pair (.sl aK) (.pair (.sl .str) (.sl aK)))))))
abbrev w9:Type:=Int×List ByteArray×Int×Int×Int×List fF×List ByteArray×List fF
abbrev bM:U:=.pair (.int .i64) (.int .i64)
abbrev fE:Type:=Int×Int
abbrev jY:ByteArray:=⟨#[]⟩
def txt(ms:List ByteArray)(k:Nat):ByteArray:=elt (dflt .str) ms ((k:Nat):Int)
structure eB where
 w:Nat
 b:Nat
 n:Nat
 e:Nat
 ks:List Nat
 fl:List (Bool×Nat)
def bV(ms:List ByteArray)(k:Nat):fF:=(false,((k:Nat):Int),txt ms k)
def bC(ms:List ByteArray)(p:Bool×Nat):fF:=(p.1,((p.2:Nat):Int),bif p.1 then jY else txt ms p.2)
def toN(ms:List ByteArray)(s:eB):w9:=(((s.w:Nat):Int),ms,((s.b:Nat):Int),((s.n:Nat):Int),((s.e:Nat):Int),s.ks.map (bV ms),ms.take s.e,s.fl.map (bC ms))
def Bq(s:eB)(p:Bool×Nat):Prop:=(p.1=true->p.2<=s.e)/\(p.1=false->p.2<s.n)
structure aW(ms:List ByteArray)(s:eB):Prop where
 w1:1<=s.w
 w8:s.w<=8
 m30:ms.length<=30
 m40:∀m∈ms,m.size<=40
 be:s.b<=s.e
 en:s.e<=s.n
 nm:s.n<=ms.length
 nw:s.n<=s.b+s.w
 ks1:List.Pairwise (· < ·) s.ks
 ks2:∀k∈s.ks,s.e<k/\k<s.n
 fl60:s.fl.length<=60
 flk:∀p∈s.fl,Bq s p
abbrev I8(x:fF):SV:=.agg [.bool x.1,.int .i64 x.2.1,.raw (.string x.2.2)]
abbrev yt(c:w9):SV:=.agg [.int .i64 c.1,.rsl .str c.2.1,.int .i64 c.2.2.1,.int .i64 c.2.2.2.1,.int .i64 c.2.2.2.2.1,.rsl aK c.2.2.2.2.2.1,.rsl .str c.2.2.2.2.2.2.1,.rsl aK c.2.2.2.2.2.2.2]
theorem EB(n a b:Int):aB Try.prog 43 [.int .i64 n,.int .i64 a,.int .i64 b] (.bool (decide (a<=n/\n<=b))):=by
 refine aB.intro (nt:=15) aC mixed (by kernel_rfl) Try.func43 rfl rfl rfl rfl rfl ?_;show(bif decide (a<=n)then decide (n<=b)else false)=decide (a<=n/\n<=b)
 by_cases h1:a<=n<;>by_cases h2:n<=b<;>simp[h1,h2]
theorem Pw:aU Try.prog 34=true:=by kernel_rfl
section
variable {ms:List ByteArray}{s:eB}
set_option maxRecDepth 100000 in
theorem Uv(hm:s.n<=ms.length)(h30:ms.length<=30)(p:Bool×Nat)(hp:Bq s p):aB Try.prog 34 [.rp eZ (toN ms s),I8 (bC ms p)] (.bool true):=by
 refine aB.intro (nt:=49) aC mixed Pw Try.func34 rfl rfl rfl rfl rfl ?_;obtain⟨a,k⟩:=p;cases a with
 |true=>
  have hk:k<=s.e:=hp.1 rfl;refine aI (fun _=> ?_) (fun q=>by cases q);refine aI (by kernel_rfl) ?_;show(bif (bif decide ((0:Int)<=(k:Nat))then decide (((k:Nat):Int)<=(s.e:Nat))else false)then decide (jY=jY)else false)=true;have h1:(0:Int)<=(k:Nat):=by omega
  have h2:((k:Nat):Int)<=(s.e:Nat):=by omega
  simp[h1,h2]
 |false=>
  have hk:k<s.n:=hp.2 rfl;have h0:(0:Int)<=(k:Nat):=by omega
  have h1:((k:Nat):Int)<(s.n:Nat):=by omega
  refine aI (fun q=>by cases q) (fun _=> ?_);refine aI (fun _=> ?_) ?_
  .exact⟨h0,by show((k:Nat):Int)<(ms.length:Nat);omega⟩
  refine aI (by kernel_rfl) ?_;show(bif (bif decide ((0:Int)<=(k:Nat))then decide (((k:Nat):Int)<(s.n:Nat))else false)then decide (txt ms k=txt ms k)else false)=true;simp[h0,h1]
end
end Go.Proofs.Ytbakpddomlgjbaa
