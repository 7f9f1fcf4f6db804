
/- EquivalentTraces: whether two lists of events are one; both sides. -/
import Derived.Test.YtbdimbjclhmeoaaGreatKt
import Derived.Test.YtbdimbjclhmeoaaGreatKh
import Derived.Test.YtbdimbjclhmeoaaGreatKm
set_option maxRecDepth 100000
set_option linter.unusedSimpArgs false
set_option linter.unusedVariables false
namespace Go.Proofs.YtbdimbjclhmeoaaGreat
open Go Go.RowKit Go.Proofs Go.Tr
theorem Zcm:bH Tryz.prog 59=true:=by kernel_rfl
theorem Zcr:bH Tryz.prog 60=true:=by kernel_rfl
theorem Zcp:bH Tryz.prog 31=true:=by kernel_rfl
theorem Zcq:bH Tryz.prog 30=true:=by kernel_rfl
theorem Zcn{a b:List aB}{i:Nat}(ha:i<a.length)(hb:i<b.length)(h:a.take i=b.take i)(he:elt (dflt aV) a ((i:Nat):Int)=elt (dflt aV) b ((i:Nat):Int)):a.take (i+1)=b.take (i+1):=by
 have e1:elt (dflt aV) a ((i:Nat):Int)=a[i]:=by unfold elt;rw[qC,qK,qB ha];rfl
 have e2:elt (dflt aV) b ((i:Nat):Int)=b[i]:=by unfold elt;rw[qC,qK,qB hb];rfl
 rw[List.take_succ_eq_append_getElem ha,List.take_succ_eq_append_getElem hb,h,<-e1,<-e2,he]
theorem Zct{e f:aB}(h:bT (jI e) (jI f)=true):e=f:=by
 have:=xP (by rfl) h;unfold jI at this;simp only[List.cons.injEq,and_true]at this;obtain⟨q1,q2,q3,q4,q5⟩:=this;exact Prod.ext q1 (Prod.ext q2 (Prod.ext q3 (Prod.ext q4 q5)))
theorem Zcy(a b:List aB)(hl:a.length<=1000000):aJ Tryz.prog 59 [.rsl aV a,.rsl aV b] (.bool (decide (a=b))):=by
 refine aJ.intro (nt:=26) aG mixed Zcm Tryz.func59 rfl rfl rfl rfl rfl ?_;refine aI (fun q=> ?_) (fun q=> ?_)
 .have q2:(((a.length:Nat):Int) !=((b.length:Nat):Int))=true:=q;rw[show decide (a=b)=false from decide_eq_false fun e=>by rw[e]at q2;simp at q2];exact rfl
 have hlen:a.length=b.length:=by
  have q2:(((a.length:Nat):Int) !=((b.length:Nat):Int))=false:=q;simp at q2;omega
 refine lp Nat (fun i=>[(5,.int .i64 (i:Nat))]) (fun _=>[]) (fun i=>a.length-i) (fun i=>i<=a.length/\a.take i=b.take i) 0 ⟨Nat.zero_le _,by simp⟩ ?_ ?_
 .exact hd [] rfl (aI (aI rfl rfl) trivial) trivial
 rintro i ⟨hi,he⟩;have hi':i<=a.length:=hi;have he':a.take i=b.take i:=he;refine aI (fun q1=> ?_) (fun q1=> ?_)
 .have hlt:i<a.length:=ltU q1;refine aI (show 0<=((i:Nat):Int)/\((i:Nat):Int)<(a.length:Nat) by omega) ?_;refine aI (show 0<=((i:Nat):Int)/\((i:Nat):Int)<(b.length:Nat) by omega) ?_;refine aI ⟨by kernel_rfl,rfl⟩ ?_;refine aI (by kernel_rfl) ?_;refine aI (fun q2=> ?_) (fun q2=> ?_)
  .have q3:(!bT (jI (elt (dflt aV) a ((i:Nat):Int))) (jI (elt (dflt aV) b ((i:Nat):Int))))=true:=q2;rw[show decide (a=b)=false from decide_eq_false fun e=>by rw[e,KM]at q3;cases q3];exact rfl
  .have q3:(!bT (jI (elt (dflt aV) a ((i:Nat):Int))) (jI (elt (dflt aV) b ((i:Nat):Int))))=false:=q2;refine aY (i+1) ⟨hlt,Zcn hlt (by omega) he' (Zct (by simpa using q3))⟩ ?_ ?_
   .exact hd [] rfl (aI (aI (dG (by omega)) rfl) trivial) trivial
   .show a.length-(i+1)<a.length-i;omega
 .have hge:=geU q1
  rw[show decide (a=b)=true from decide_eq_true (by
   have e:=he';rw[qN hge,qN (by omega)]at e;exact e)]
  exact rfl
theorem ZcK(a b:List aB)(hl:a.length<=1000000):aJ Tryz.prog 92 [.rsl aV a,.rsl aV b] (.bool (decide (a=b))):=by
 refine aJ.intro (nt:=26) aG mixed (by kernel_rfl) Tryz.func92 rfl rfl rfl rfl rfl ?_;refine aI (fun q=> ?_) (fun q=> ?_)
 .have q2:(((a.length:Nat):Int) !=((b.length:Nat):Int))=true:=q;rw[show decide (a=b)=false from decide_eq_false fun e=>by rw[e]at q2;simp at q2];exact rfl
 have hlen:a.length=b.length:=by
  have q2:(((a.length:Nat):Int) !=((b.length:Nat):Int))=false:=q;simp at q2;omega
 refine lp Nat (fun i=>[(13,.int .i64 (i:Nat))]) (fun _=>[]) (fun i=>a.length-i) (fun i=>i<=a.length/\a.take i=b.take i) 0 ⟨Nat.zero_le _,by simp⟩ ?_ ?_
 .exact hd [] rfl (aI (aI rfl rfl) trivial) trivial
 rintro i ⟨hi,he⟩;have hi':i<=a.length:=hi;have he':a.take i=b.take i:=he;refine aI (fun q1=> ?_) (fun q1=> ?_)
 .have hlt:i<a.length:=ltU q1;refine aI (show 0<=((i:Nat):Int)/\((i:Nat):Int)<(a.length:Nat) by omega) ?_;refine aI (show 0<=((i:Nat):Int)/\((i:Nat):Int)<(b.length:Nat) by omega) ?_;refine aI ⟨by kernel_rfl,rfl⟩ ?_;refine aI (by kernel_rfl) ?_;refine aI (fun q2=> ?_) (fun q2=> ?_)
  .have q3:(!bT (jI (elt (dflt aV) a ((i:Nat):Int))) (jI (elt (dflt aV) b ((i:Nat):Int))))=true:=q2;rw[show decide (a=b)=false from decide_eq_false fun e=>by rw[e,KM]at q3;cases q3];exact rfl
  .have q3:(!bT (jI (elt (dflt aV) a ((i:Nat):Int))) (jI (elt (dflt aV) b ((i:Nat):Int))))=false:=q2;refine aY (i+1) ⟨hlt,Zcn hlt (by omega) he' (Zct (by simpa using q3))⟩ ?_ ?_
   .exact hd [] rfl (aI (aI (dG (by omega)) rfl) trivial) trivial
   .show a.length-(i+1)<a.length-i;omega
 .have hge:=geU q1
  rw[show decide (a=b)=true from decide_eq_true (by
   have e:=he';rw[qN hge,qN (by omega)]at e;exact e)]
  exact rfl
theorem ZcA(a b:List aB)(hl:a.length<=1000000):aJ Tryz.prog 60 [.rsl aV a,.rsl aV b] (.bool (decide (a=b))):=by
 refine aJ.intro (nt:=8) aG mixed Zcr Tryz.func60 rfl rfl rfl rfl rfl ?_;refine oZ (ZcK a b hl) ?_;exact rfl
abbrev tw2(a b:List aB):List Tok:=[.row 10000 67 5 aV a [],.row 10001 67 5 aV b []]
theorem Zcx(a b:List aB)(hl:a.length<=1000000):aA Tryz.prog 59 [.sl 10000,.sl 10001] (tw2 a b) (.bool (decide (a=b))) (tw2 a b):=aA.vC aG [30,30] Zcm (Zcy a b hl) rfl
theorem Zcz(a b:List aB)(hl:a.length<=1000000):aA Tryz.prog 60 [.sl 10000,.sl 10001] (tw2 a b) (.bool (decide (a=b))) (tw2 a b):=aA.vC aG [30,30] Zcr (ZcA a b hl) rfl
section
variable (bk:iQ)(xs:aS)(a b:List aB)
abbrev Zcd:List SV:=[.rsl aZ bk,.agg [.rsl aD xs],.rsl aV a,.rsl aV b]
abbrev ZcJ(f:Nat)(es:List aB)(c:Int):Prop:=aA Tryz.prog f (IY bk xs es) [] (.tup [.raw (.slice none 0 0),.int .i64 c]) []
abbrev Zcw(f:Nat)(es out:List aB):Prop:=aA Tryz.prog f (IY bk xs es) [] (.tup [.sl 10000,.int .i64 0]) [.row 10000 67 5 aV out []]
variable {bk xs a b}
theorem ZcO{c:Int}(hc:c≠0)(h:Ou bk xs a c):aA Tryz.prog 30 (Zcd bk xs a b) [] (.tup [.bool false,.int .i64 c]) []:=by
 refine aA.intro (nt:=34) aG mixed Zcq Tryz.func30 rfl rfl rfl rfl rfl rfl ?_;refine oY (Zaf bk xs a h) ?_;refine aI (fun q=> ?_) (fun q=> ?_)
 .exact fin [] (aI rfl trivial)
 .exfalso;have q2:(c !=0)=false:=q;simp at q2;exact hc q2
theorem ZcP{c:Int}(hc:c≠0){o:List aB}(h1:Dr bk xs a o)(h:Ou bk xs b c):aA Tryz.prog 30 (Zcd bk xs a b) [] (.tup [.bool false,.int .i64 c]) []:=by
 refine aA.intro (nt:=34) aG mixed Zcq Tryz.func30 rfl rfl rfl rfl rfl rfl ?_;refine oY (ZbW bk xs a h1) ?_;refine aI (fun q=>by cases q) (fun _=> ?_);refine oY (Zaf bk xs b h) ?_;refine aI (fun q=> ?_) (fun q=> ?_)
 .exact fin [] (aI rfl trivial)
 .exfalso;have q2:(c !=0)=false:=q;simp at q2;exact hc q2
theorem ZcQ{o p:List aB}(hl:o.length<=1000000)(h1:Dr bk xs a o)(h2:Dr bk xs b p):aA Tryz.prog 30 (Zcd bk xs a b) [] (.tup [.bool (decide (o=p)),.int .i64 0]) []:=by
 refine aA.intro (nt:=34) aG mixed Zcq Tryz.func30 rfl rfl rfl rfl rfl rfl ?_;refine oY (ZbW bk xs a h1) ?_;refine aI (fun q=>by cases q) (fun _=> ?_);refine oY (ZbW bk xs b h2) ?_;refine aI (fun q=>by cases q) (fun _=> ?_);refine oY (Zcx o p hl) ?_;exact fin [] (aI rfl trivial)
theorem ZcL{c:Int}(hc:c≠0)(h:ZcJ bk xs 35 a c):aA Tryz.prog 31 (Zcd bk xs a b) [] (.tup [.bool false,.int .i64 c]) []:=by
 refine aA.intro (nt:=36) aG mixed Zcp Tryz.func31 rfl rfl rfl rfl rfl rfl ?_;refine oY h ?_;refine aI (fun q=> ?_) (fun q=> ?_)
 .exact fin [] (aI rfl trivial)
 .exfalso;have q2:(c !=0)=false:=q;simp at q2;exact hc q2
theorem ZcM{c:Int}(hc:c≠0){o:List aB}(h1:Zcw bk xs 35 a o)(h:ZcJ bk xs 35 b c):aA Tryz.prog 31 (Zcd bk xs a b) [] (.tup [.bool false,.int .i64 c]) []:=by
 refine aA.intro (nt:=36) aG mixed Zcp Tryz.func31 rfl rfl rfl rfl rfl rfl ?_;refine oY h1 ?_;refine aI (fun q=>by cases q) (fun _=> ?_);refine oY h ?_;refine aI (fun q=> ?_) (fun q=> ?_)
 .exact fin [] (aI rfl trivial)
 .exfalso;have q2:(c !=0)=false:=q;simp at q2;exact hc q2
theorem ZcN{o p:List aB}(hl:o.length<=1000000)(h1:Zcw bk xs 35 a o)(h2:Zcw bk xs 35 b p):aA Tryz.prog 31 (Zcd bk xs a b) [] (.tup [.bool (decide (o=p)),.int .i64 0]) []:=by
 refine aA.intro (nt:=36) aG mixed Zcp Tryz.func31 rfl rfl rfl rfl rfl rfl ?_;refine oY h1 ?_;refine aI (fun q=>by cases q) (fun _=> ?_);refine oY h2 ?_;refine aI (fun q=>by cases q) (fun _=> ?_);refine oY (Zcz o p hl) ?_;exact fin [] (aI rfl trivial)
end
theorem Zce(bk:iQ)(xs:aS)(a b:List aB):∃(t:Bool) (c:Int),aA Tryz.prog 31 (Zcd bk xs a b) [] (.tup [.bool t,.int .i64 c]) []/\aA Tryz.prog 30 (Zcd bk xs a b) [] (.tup [.bool t,.int .i64 c]) []:=by
 have sb:∀{es:List aB} {c:Int},c≠0->(SBd bk xs es c\/∃g,SGd bk xs es g/\Ym bk xs es c)->Ou bk xs es c:=fun {es c} hc h=>by
  rcases h with h|⟨g,h1,h2⟩
  .exact std1 bk xs es hc h
  .exact std2 bk xs es h1 h2
 cases ZaV bk xs a with
 |bad c hc hI hS=>exact⟨false,c,ZcL hc (Yb hc hI),ZcO hc (sb hc hS)⟩
 |ok r g hI hS hR hl he hf hd hr=>
  cases ZaV bk xs b with
  |bad c hc hI2 hS2=>exact⟨false,c,ZcM hc (Zag hI) (Yb hc hI2),ZcP hc (ZcB bk xs a hS hR) (sb hc hS2)⟩
  |ok r2 g2 hI2 hS2 hR2 _ _ _ _ _=>exact⟨_,0,ZcN (by omega) (Zag hI) (Zag hI2),ZcQ (by omega) (ZcB bk xs a hS hR) (ZcB bk xs b hS2 hR2)⟩
end Go.Proofs.YtbdimbjclhmeoaaGreat
