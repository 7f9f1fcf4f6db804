
/- The reference's active pairs; one interaction recorded by both sides. -/
import Derived.Test.YtemalpelcdmemaaGreatShort
import Derived.Test.YtemalpelcdmemaaGreatUp
import Derived.Test.YtemalpelcdmemaaGreatUc
import Derived.Test.YtemalpelcdmemaaGreatRg
set_option linter.unusedSimpArgs false
set_option linter.unusedVariables false
namespace Go.Proofs.YtemalpelcdmemaaGreat
open Go Go.RowKit Go.Proofs Go.Tr
theorem UW:callOk Tryz.prog 72=true:=by kernel_rfl
set_option maxRecDepth 100000 in
theorem Zb(ys:List NAgent)(hl:ys.length≤1000000)(h0:0<ys.length)(hp:∀i:Nat,i<ys.length→cB ys i=true→0<(ah ys (i:Nat)).2.2.2.2.length):FCall Tryz.prog 72 [.rp uNet ys] [] (.sl 10000) [.row 10000 96 2 uPort (prsN ys) []]:=by
 refine FCall.intro (nt:=52) ti_ok mixed UW Tryz.func72 rfl rfl rfl rfl rfl rfl ?_;refine lp Nat (fun i=>[(4,.int .i64 (i:Nat)),(3,.sl 20000)]) (fun i=>[.row 20000 96 2 uPort (mh (zm ys) ys i) []]) (fun i=>ys.length-i) (fun i=>1≤i∧i≤ys.length) 1 ⟨Nat.le_refl 1,h0⟩ ?_ ?_
 ·exact hd [(20000,6)] rfl (aI (aI rfl rfl) (aI rfl trivial)) ⟨⟨(show([]:List (Int×Int))=mh (zm ys) ys 1 from(sW (c:=zm ys) (xs:=ys) (k:=0) rfl).symm),List.nil_prefix⟩,trivial⟩
 rintro i ⟨h1,hi⟩;have h1':1≤i:=h1;refine aI (fun q1=> ?_) (fun q1=> ?_)
 ·have hlt:i<ys.length:=ltU q1;have hk:0≤((i:Nat):Int)∧((i:Nat):Int)<(ys.length:Nat):=by omega
  refine aI hk ?_;refine aI (fun q2=> ?_) (fun q2=> ?_)
  ·have hv:cB ys i=false:=WM q2;have hr:zm ys i=false:=by unfold zm;rw[hv];cases decide (1≤i)<;>rfl
   refine lp_next (i+1) ⟨by omega,hlt⟩ ?_ ?_
   ·exact hd [] rfl (aI (aI (wrapS (by omega)) rfl) (aI rfl trivial)) ⟨⟨(sW hr).symm,List.nil_prefix⟩,trivial⟩
   ·show ys.length-(i+1)<ys.length-i;omega
  ·have hv:cB ys i=true:=WO q2;have hp1:=hp i hlt hv;have he:zm ys i=Vb ys i:=by unfold zm;rw[hv,decide_eq_true h1'];rfl
   refine aI hk ?_;refine aI (show(0:Int)≤0∧(0:Int)<((ah ys (i:Nat)).2.2.2.2.length:Nat) by omega) ?_;refine aI (fun q3=> ?_) (fun q3=> ?_)
   ·have hr:zm ys i=true:=by rw[he];exact q3
    refine aI (show(mh (zm ys) ys i).length+1≤1073741824 by have:=Gg (zm ys) ys i;omega) ?_;refine lp_next (i+1) ⟨by omega,hlt⟩ ?_ ?_
    ·refine hd [(20000,50)] rfl (aI (aI (wrapS (by omega)) rfl) (aI rfl trivial)) ⟨⟨?_,List.nil_prefix⟩,trivial⟩;show mh (zm ys) ys i++[Nn ys i]=mh (zm ys) ys (i+1);exact(Ad hr).symm
    ·show ys.length-(i+1)<ys.length-i;omega
   ·have hr:zm ys i=false:=by rw[he];exact q3
    refine lp_next (i+1) ⟨by omega,hlt⟩ ?_ ?_
    ·exact hd [] rfl (aI (aI (wrapS (by omega)) rfl) (aI rfl trivial)) ⟨⟨(sW hr).symm,List.nil_prefix⟩,trivial⟩
    ·show ys.length-(i+1)<ys.length-i;omega
 ·have hge:ys.length≤i:=geU q1;have hi':i≤ys.length:=hi;obtain rfl:i=ys.length:=by omega
  refine fin [(10000,20000)] (aI rfl ?_);exact⟨⟨rfl,List.nil_prefix⟩,trivial⟩
inductive V3(bk:List (List NAgent))(sch:List Int)(st:Int):List (Int×Bool)→List NAgent→List NAgent→List bW→Int→List bW→Prop
 |stop {kv:List (Int×Bool)} {xs ys:List NAgent} {ev:List bW} (T:Tr.Twin kv xs ys) (w:JH (fun _=>False) xs) (hl:xs.length≤3000) (h:prsN ys=[]∨st≤(ev.length:Nat)):V3 bk sch st kv xs ys ev 0 ev
 |bad {kv:List (Int×Bool)} {xs ys:List NAgent} {ev:List bW} (T:Tr.Twin kv xs ys) (w:JH (fun _=>False) xs) (hl:xs.length≤3000) (hp:0<(prsN ys).length) (hs:((ev.length:Nat):Int)<st) (code:Int) (hc:code≠0)
  (hI:∀us,FCall Tryz.prog 76 [.ptr 10000 0,vP (uH sch (prsN ys) (ev.length:Nat))] (tR xs us bk kv ev) (.int .i64 code) (tR xs us bk kv ev))
  (hS:∀us,FCall Tryz.prog 73 [.rsl uNet bk,.ptr 10000 0,.int .i64 (uH sch (prsN ys) (ev.length:Nat)).1,.int .i64 (uH sch (prsN ys) (ev.length:Nat)).2] (tA ys us) (.tup [Xw (0,0,0,0,0),.int .i64 code]) (tA ys us)):V3 bk sch st kv xs ys ev code []
 |full {kv:List (Int×Bool)} {xs ys:List NAgent} {ev:List bW} (T:Tr.Twin kv xs ys) (w:JH (fun _=>False) xs) (hl:xs.length≤3000) (hp:0<(prsN ys).length) (hs:((ev.length:Nat):Int)<st) (code:Int) (hc:code≠0) (x' y':List NAgent) (kv':List (Int×Bool)) (ev':List bW)
  (hI:∀us,FCall Tryz.prog 76 [.ptr 10000 0,vP (uH sch (prsN ys) (ev.length:Nat))] (tR xs us bk kv ev) (.int .i64 code) (tRn 10005 10006 x' us bk kv' ev'))
  (hS:∀us,FCall Tryz.prog 73 [.rsl uNet bk,.ptr 10000 0,.int .i64 (uH sch (prsN ys) (ev.length:Nat)).1,.int .i64 (uH sch (prsN ys) (ev.length:Nat)).2] (tA ys us) (.tup [Xw (0,0,0,0,0),.int .i64 code]) (R3 10002 y' [])):V3 bk sch st kv xs ys ev code []
 |next {kv:List (Int×Bool)} {xs ys:List NAgent} {ev:List bW} (T:Tr.Twin kv xs ys) (w:JH (fun _=>False) xs) (hl:xs.length≤3000) (hp:0<(prsN ys).length) (hs:((ev.length:Nat):Int)<st) (x' y':List NAgent) (kv':List (Int×Bool)) (e:bW) {code:Int} {out:List bW}
  (hI:∀us,FCall Tryz.prog 76 [.ptr 10000 0,vP (uH sch (prsN ys) (ev.length:Nat))] (tR xs us bk kv ev) (.int .i64 0) (tRn 10005 10006 x' us bk kv' (ev++[e])))
  (hS:∀us,FCall Tryz.prog 73 [.rsl uNet bk,.ptr 10000 0,.int .i64 (uH sch (prsN ys) (ev.length:Nat)).1,.int .i64 (uH sch (prsN ys) (ev.length:Nat)).2] (tA ys us) (.tup [Xw e,.int .i64 0]) (R3 10002 y' [])) (r:V3 bk sch st kv' x' y' (ev++[e]) code out):V3 bk sch st kv xs ys ev code out
theorem V3.tw{bk:List (List NAgent)}{sch:List Int}{st:Int}{kv:List (Int×Bool)}{xs ys:List NAgent}{ev:List bW}{c:Int}{out:List bW}(h:V3 bk sch st kv xs ys ev c out):Tr.Twin kv xs ys∧xs.length≤3000:=by
 cases h with
 |stop T _ hl=>exact⟨T,hl⟩
 |bad T _ hl=>exact⟨T,hl⟩
 |full T _ hl=>exact⟨T,hl⟩
 |next T _ hl=>exact⟨T,hl⟩
theorem V3.wl{bk:List (List NAgent)}{sch:List Int}{st:Int}{kv:List (Int×Bool)}{xs ys:List NAgent}{ev:List bW}{c:Int}{out:List bW}(h:V3 bk sch st kv xs ys ev c out):JH (fun _=>False) xs:=by
 cases h with
 |stop _ w=>exact w
 |bad _ w=>exact w
 |full _ w=>exact w
 |next _ w=>exact w
end Go.Proofs.YtemalpelcdmemaaGreat
