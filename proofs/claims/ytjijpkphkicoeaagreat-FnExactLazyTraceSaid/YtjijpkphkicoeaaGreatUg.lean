
/- The program's pairs of a net. -/
import Derived.Test.YtjijpkphkicoeaaGreatShort
import Derived.Test.YtjijpkphkicoeaaGreatIo
import Derived.Test.YtjijpkphkicoeaaGreatVV
import Derived.Test.YtjijpkphkicoeaaGreatYd
import Derived.Test.YtjijpkphkicoeaaGreatRn
import Derived.Test.YtjijpkphkicoeaaGreatRa
set_option linter.unusedSimpArgs false
set_option linter.unusedVariables false
namespace Go.Proofs.YtjijpkphkicoeaaGreat
open Go Go.RowKit Go.Proofs Go.Tr
section
variable (xs:List aj)(us:List Value)(bk:List (List aj))(kv:List (Int×Bool))(ev:List bZ)
end
end Go.Proofs.YtjijpkphkicoeaaGreat
namespace Go.Proofs.YtjijpkphkicoeaaGreat
open Go Go.RowKit Go.Proofs Go.Tr
inductive TM(bk:List (List aj))(sch:List Int)(st:Int):List (Int×Bool)→List aj→List aj→List bZ→Int→List bZ→Prop
 |stop {kv:List (Int×Bool)} {xs ys:List aj} {ev:List bZ} (T:Tr.Twin kv xs ys) (w:GI (fun _=>False) xs) (hl:xs.length≤3000) (h:dO ys=[]∨st≤(ev.length:Nat)):TM bk sch st kv xs ys ev 0 ev
 |bad {kv:List (Int×Bool)} {xs ys:List aj} {ev:List bZ} (T:Tr.Twin kv xs ys) (w:GI (fun _=>False) xs) (hl:xs.length≤3000) (hp:0<(dO ys).length) (hs:((ev.length:Nat):Int)<st) (code:Int) (hc:code≠0)
  (hI:∀us,aA Tryz.prog 75 [.ptr 10000 0,vP (sQ sch (dO ys) (ev.length:Nat))] (tR xs us bk kv ev) (.int .i64 code) (tR xs us bk kv ev))
  (hS:∀us,aA Tryz.prog 72 [.rsl aR bk,.ptr 10000 0,.int .i64 (sQ sch (dO ys) (ev.length:Nat)).1,.int .i64 (sQ sch (dO ys) (ev.length:Nat)).2] (tA ys us) (.tup [vEv (0,0,0,0,0),.int .i64 code]) (tA ys us)):TM bk sch st kv xs ys ev code []
 |full {kv:List (Int×Bool)} {xs ys:List aj} {ev:List bZ} (T:Tr.Twin kv xs ys) (w:GI (fun _=>False) xs) (hl:xs.length≤3000) (hp:0<(dO ys).length) (hs:((ev.length:Nat):Int)<st) (code:Int) (hc:code≠0) (x' y':List aj) (kv':List (Int×Bool)) (ev':List bZ)
  (hI:∀us,aA Tryz.prog 75 [.ptr 10000 0,vP (sQ sch (dO ys) (ev.length:Nat))] (tR xs us bk kv ev) (.int .i64 code) (tRn 10005 10006 x' us bk kv' ev'))
  (hS:∀us,aA Tryz.prog 72 [.rsl aR bk,.ptr 10000 0,.int .i64 (sQ sch (dO ys) (ev.length:Nat)).1,.int .i64 (sQ sch (dO ys) (ev.length:Nat)).2] (tA ys us) (.tup [vEv (0,0,0,0,0),.int .i64 code]) (TH 10002 y' [])):TM bk sch st kv xs ys ev code []
 |next {kv:List (Int×Bool)} {xs ys:List aj} {ev:List bZ} (T:Tr.Twin kv xs ys) (w:GI (fun _=>False) xs) (hl:xs.length≤3000) (hp:0<(dO ys).length) (hs:((ev.length:Nat):Int)<st) (x' y':List aj) (kv':List (Int×Bool)) (e:bZ) {code:Int} {out:List bZ}
  (hI:∀us,aA Tryz.prog 75 [.ptr 10000 0,vP (sQ sch (dO ys) (ev.length:Nat))] (tR xs us bk kv ev) (.int .i64 0) (tRn 10005 10006 x' us bk kv' (ev++[e])))
  (hS:∀us,aA Tryz.prog 72 [.rsl aR bk,.ptr 10000 0,.int .i64 (sQ sch (dO ys) (ev.length:Nat)).1,.int .i64 (sQ sch (dO ys) (ev.length:Nat)).2] (tA ys us) (.tup [vEv e,.int .i64 0]) (TH 10002 y' [])) (r:TM bk sch st kv' x' y' (ev++[e]) code out):TM bk sch st kv xs ys ev code out
theorem TM.tw{bk:List (List aj)}{sch:List Int}{st:Int}{kv:List (Int×Bool)}{xs ys:List aj}{ev:List bZ}{c:Int}{out:List bZ}(h:TM bk sch st kv xs ys ev c out):Tr.Twin kv xs ys∧xs.length≤3000:=by
 cases h with
 |stop T _ hl=>exact⟨T,hl⟩
 |bad T _ hl=>exact⟨T,hl⟩
 |full T _ hl=>exact⟨T,hl⟩
 |next T _ hl=>exact⟨T,hl⟩
theorem TM.wl{bk:List (List aj)}{sch:List Int}{st:Int}{kv:List (Int×Bool)}{xs ys:List aj}{ev:List bZ}{c:Int}{out:List bZ}(h:TM bk sch st kv xs ys ev c out):GI (fun _=>False) xs:=by
 cases h with
 |stop _ w=>exact w
 |bad _ w=>exact w
 |full _ w=>exact w
 |next _ w=>exact w
def mg(a b:Bool):Int:=bif a then(bif b then 0 else 2)else 1
noncomputable def ku(bk:List (List aj))(xs:List aj):Bool:=lG (bk.map gN)&&iE (gN xs)
theorem Tp(bk:List (List aj))(xs:List aj)(h:(bif !lG (bk.map gN)then true else !iE (gN xs))=true):ku bk xs=false:=by
 unfold ku;revert h;cases lG (bk.map gN)<;>cases iE (gN xs)<;>simp
theorem Wt(bk:List (List aj))(xs:List aj)(h:(bif !lG (bk.map gN)then true else !iE (gN xs))=false):ku bk xs=true:=by
 unfold ku;revert h;cases lG (bk.map gN)<;>cases iE (gN xs)<;>simp
theorem Ql(m st:Int):(!([st].any (U0 m)))=dX st 0 m:=by
 unfold dX U0;simp only[List.any_cons,List.any_nil,Bool.or_false]
 by_cases h1:st<0
 ·rw[decide_eq_true h1,decide_eq_false (show ¬0≤st by omega)];rfl
 ·rw[decide_eq_false h1,decide_eq_true (show 0≤st by omega),qH,Bool.true_and]
  by_cases h2:m<st
  ·rw[decide_eq_true h2,decide_eq_false (show ¬st≤m by omega)];rfl
  ·rw[decide_eq_false h2,decide_eq_true (show st≤m by omega)];rfl
section
variable (bk:List (List aj))(xs:List aj)(sch:List Int)(st:Int)
end
end Go.Proofs.YtjijpkphkicoeaaGreat
namespace Go.Proofs.YtjijpkphkicoeaaGreat
open Go Go.RowKit Go.Proofs Go.Tr
section
variable (bk:List (List aj))(xs:List aj)(sch:List Int)(st:Int)
set_option maxRecDepth 100000 in
theorem WL:aO Tryz.prog 47 [.rsl aR bk,.rp aR xs,.rsl (.int .i64) sch,.int .i64 st] (.int .i64 (mg (ku bk xs) (bY sch&&dX st 0 4000))):=by
 refine aO.intro (nt:=25) aH mixed (by kernel_rfl) Tryz.func47 rfl rfl rfl rfl rfl ?_;refine Or.inl (eI _ (aI (Yx bk) ?_));refine Or.inl (eI _ (aI (fun _=>netQ xs) ?_));refine aI (fun q=> ?_) (fun q=> ?_)
 ·have e:(1:Int)=mg (ku bk xs) (bY sch&&dX st 0 4000):=by rw[Tp bk xs q];rfl
  exact⟨e,rfl⟩
 have hv:=Wt bk xs q;refine Or.inl (eI _ (aI (XP sch) ?_));refine Or.inl (eI _ (aI (fun _=>H8 st 0 4000) ?_));refine aI (fun q1=> ?_) (fun q1=> ?_)
 ·have q2:(bif !bY sch then true else !dX st 0 4000)=true:=q1
  have e:(2:Int)=mg (ku bk xs) (bY sch&&dX st 0 4000):=by
   rw[hv];revert q2;cases bY sch<;>cases dX st 0 4000<;>simp[mg]
  exact⟨e,rfl⟩
 ·have q2:(bif !bY sch then true else !dX st 0 4000)=false:=q1
  have e:(0:Int)=mg (ku bk xs) (bY sch&&dX st 0 4000):=by
   rw[hv];revert q2;cases bY sch<;>cases dX st 0 4000<;>simp[mg]
  exact⟨e,rfl⟩
end
end Go.Proofs.YtjijpkphkicoeaaGreat
namespace Go.Proofs.YtjijpkphkicoeaaGreat
open Go Go.RowKit Go.Proofs Go.Tr
section
variable (bk:List (List aj))(xs:List aj)(sch:List Int)(st:Int)
end
end Go.Proofs.YtjijpkphkicoeaaGreat
