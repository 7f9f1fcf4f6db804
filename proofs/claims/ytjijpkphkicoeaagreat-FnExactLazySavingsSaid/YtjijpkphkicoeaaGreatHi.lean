
/- Lazy reductions on both sides: the states on the way. -/
import Derived.Test.YtjijpkphkicoeaaGreatYq
import Derived.Test.YtjijpkphkicoeaaGreatHh
set_option linter.unusedSimpArgs false
set_option linter.unusedVariables false
namespace Go.Tr
open Go Go.RowKit
def Xo(r:Int×Int):Int×Int:=(min r.1 r.2,max r.1 r.2)
end Go.Tr
namespace Go.Proofs.YtjijpkphkicoeaaGreat
open Go Go.RowKit Go.Proofs Go.Tr
abbrev Wu(fl:Bool)(A:List aj):Option (Int×Int):=fF A (au A (nJ fl A).2)
variable (fl:Bool)(bk:List (List aj))(most:Int)
inductive Fj:kY→Int→kY→Prop
 |done (s:kY) (g:vI bk s) (hX:(nJ fl s.xs).1=true) (hQ:(nJ fl (dU false s.P)).1=true):Fj s 0 s
 |stuck (s:kY) (g:vI bk s) (hX:(nJ fl s.xs).1=false) (hQ:(nJ fl (dU false s.P)).1=false) (nX:Wu fl s.xs=none) (nQ:Wu fl (dU false s.P)=none):Fj s 5 s
 |full (s:kY) (g:vI bk s) (hX:(nJ fl s.xs).1=false) (hQ:(nJ fl (dU false s.P)).1=false) (X Q:Int×Int) (nX:Wu fl s.xs=some X) (nQ:Wu fl (dU false s.P)=some Q) (e:((s.tr.length:Nat):Int)=most):Fj s 12 s
 |bad (s:kY) (g:vI bk s) (hX:(nJ fl s.xs).1=false) (hQ:(nJ fl (dU false s.P)).1=false) (X Q:Int×Int) (nX:Wu fl s.xs=some X) (nQ:Wu fl (dU false s.P)=some Q) (e:((s.tr.length:Nat):Int)<most) (code:Int) (hc:code≠0)
  (hI:aA Tryz.prog 121 [.ptr 10000 0,vP (Xo X)] (tU s.xs [] bk s.kv s.cn s.tr s.cu s.ex) (.int .i64 code) (tU s.xs [] bk s.kv s.cn s.tr s.cu s.ex))
  (hS:aA Tryz.prog 52 [.rsl aR bk,.ptr 10000 0,vP (Xo Q)] (tB (dU false s.P) [] (iF s.cu) s.tr) (.int .i64 code) (tB (dU false s.P) [] (iF s.cu) s.tr)):Fj s code s
 |next (s s':kY) (g:vI bk s) (hX:(nJ fl s.xs).1=false) (hQ:(nJ fl (dU false s.P)).1=false) (X Q:Int×Int) (nX:Wu fl s.xs=some X) (nQ:Wu fl (dU false s.P)=some Q) (e:((s.tr.length:Nat):Int)<most) (l:s'.tr.length=s.tr.length+1) {c:Int} {t:kY}
  (hI:aA Tryz.prog 121 [.ptr 10000 0,vP (Xo X)] (tU s.xs [] bk s.kv s.cn s.tr s.cu s.ex) (.int .i64 0) (Zw s'.xs [] bk s'.kv s'.cn s'.tr s'.cu s'.ex))
  (hS:aA Tryz.prog 52 [.rsl aR bk,.ptr 10000 0,vP (Xo Q)] (tB (dU false s.P) [] (iF s.cu) s.tr) (.int .i64 0) (ZQ s'.P (iF s'.cu) s'.tr)) (r:Fj s' c t):Fj s c t
variable {fl bk most}
theorem Fj.ok{s t:kY}{c:Int}(h:Fj fl bk most s c t):vI bk s:=by
 cases h with
 |done _ g=>exact g
 |stuck _ g=>exact g
 |full _ g=>exact g
 |bad _ g=>exact g
 |next _ _ g=>exact g
theorem Fj.end_{s t:kY}{c:Int}(h:Fj fl bk most s c t):vI bk t:=by
 induction h with
 |done _ g=>exact g
 |stuck _ g=>exact g
 |full _ g=>exact g
 |bad _ g=>exact g
 |next _ _ _ _ _ _ _ _ _ _ _ _ _ _ ih=>exact ih
theorem NA(hb:Ja bk)(hm:most≤4000):∀(n:Nat) {s:kY},vI bk s→((s.tr.length:Nat):Int)≤most→most≤((s.tr.length+n:Nat):Int)→∃c t,Fj fl bk most s c t
 |n,s,g,h1,h2=>by
  obtain⟨⟨N1,rs⟩,lp⟩:=g.ref false;have lx:=g.lx;obtain⟨Y,f,TY,rf⟩:=rs.tx;obtain⟨kn,zn,TN⟩:=rs.tn;obtain⟨kp,zp,gg,TP,rg⟩:=rs.tp;cases PW TY rf TN TP rg fl with
  |done hX hQ=>exact⟨_,_,.done s g hX hQ⟩
  |stuck hX hQ nX nQ=>exact⟨_,_,.stuck s g hX hQ nX nQ⟩
  |pair hX hQ p hp a b c d nX nQ eX eQ=>
   by_cases he:((s.tr.length:Nat):Int)=most
   ·exact⟨_,_,.full s g hX hQ _ _ nX nQ he⟩
   have he':((s.tr.length:Nat):Int)<most:=by omega
   obtain⟨⟨iX,iQ⟩,st⟩:=KH rs hb (by omega) (by omega) hp TY rf TP rg;rw[←eX]at iX st;rw[←eQ]at iQ st;cases QY g (by omega) lp iX iQ st with
   |bad code hc hI hS=>exact⟨_,_,.bad s g hX hQ (a,b) (c,d) nX nQ he' code hc hI hS⟩
   |ok s' g' l hI hS _=>
    match n with
    |0=>omega
    |n+1=>
     obtain⟨cd,t,r⟩:=NA hb hm n g' (by omega) (by omega);exact⟨cd,t,.next s s' g hX hQ (a,b) (c,d) nX nQ he' l hI hS r⟩
end Go.Proofs.YtjijpkphkicoeaaGreat
