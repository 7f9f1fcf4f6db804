
/- The program's pairs of a net. -/
import Derived.Test.YtjijpkphkicoeaaGreatShort
import Derived.Test.YtjijpkphkicoeaaGreatIo
import Derived.Test.YtjijpkphkicoeaaGreatVV
import Derived.Test.YtjijpkphkicoeaaGreatYd
import Derived.Test.YtjijpkphkicoeaaGreatRn
import Derived.Test.YtjijpkphkicoeaaGreatRa
set_option maxRecDepth 100000
set_option linter.unusedSimpArgs false
set_option linter.unusedVariables false
namespace Go.Proofs.YtjijpkphkicoeaaGreat
open Go Go.RowKit Go.Proofs Go.Tr
theorem ZL{k n:Nat}(h:decide (((k:Nat):Int)<((n:Nat):Int))=true):k<n:=by simp only[qQ]at h;omega
theorem ZK{k n:Nat}(h:decide (((k:Nat):Int)<((n:Nat):Int))=false):n≤k:=by simp only[decide_eq_false_iff_not]at h;omega
theorem NY:bH Tryz.prog 99=true:=by kernel_rfl
theorem Xy(xs:List aj)(hl:xs.length≤1000000)(hp:Gz xs):aA Tryz.prog 99 [.rp aR xs] [] (.sl 10000) [.row 10000 71 2 aM (kI (KD xs) xs xs.length) []]:=by
 refine aA.intro (nt:=44) aH mixed NY Tryz.func99 rfl rfl rfl rfl rfl rfl ?_;refine lp Nat (fun i=>[(12,.int .i64 (i:Nat)),(3,.sl 20000)]) (fun i=>[.row 20000 71 2 aM (kI (KD xs) xs i) []]) (fun i=>xs.length-i) (fun i=>i≤xs.length) 0 (Nat.zero_le _) ?_ ?_
 ·exact Nt [⟨3,30000,71,2,aM⟩] [(20000,30000)] rfl (aI (aI (aI rfl rfl) (aI rfl trivial)) ⟨⟨rfl,nP⟩,trivial⟩)
 intro i hi;refine aI (fun q1=> ?_) (fun q1=> ?_)
 ·have hlt:i<xs.length:=ZL q1;have hp1:=hp i hlt;refine aI (show 0≤((i:Nat):Int)∧((i:Nat):Int)<(xs.length:Nat) by omega) ?_;refine aI (show(0:Int)≤0∧(0:Int)<((ah xs (i:Nat)).2.2.2.2.length:Nat) by omega) ?_;refine aI (fun q2=> ?_) (fun q2=> ?_)
  ·have hc:KD xs i=true:=q2;refine aI (show(kI (KD xs) xs i).length+1≤1073741824 by have:=DI (KD xs) xs i;omega) ?_;refine aP (i+1) hlt ?_ ?_
   ·refine hd [(20000,41)] rfl (aI (aI (dB (by omega)) rfl) (aI rfl trivial)) ⟨⟨?_,nP⟩,trivial⟩;show kI (KD xs) xs i++[KC xs i]=kI (KD xs) xs (i+1);exact(yG hc).symm
   ·show xs.length-(i+1)<xs.length-i;omega
  ·have hc:KD xs i=false:=q2;refine aP (i+1) hlt ?_ ?_
   ·exact hd [] rfl (aI (aI (dB (by omega)) rfl) (aI rfl trivial)) ⟨⟨(rG hc).symm,nP⟩,trivial⟩
   ·show xs.length-(i+1)<xs.length-i;omega
 ·have hge:xs.length≤i:=ZK q1;have hi':i≤xs.length:=hi;obtain rfl:i=xs.length:=by omega
  refine fin [(10000,20000)] (aI rfl ?_);exact⟨⟨rfl,nP⟩,trivial⟩
theorem XA(xs:List aj)(us:List Value)(bk:List (List aj))(kv:List (Int×Bool))(hl:xs.length≤1000000)(hp:Gz xs):
  aA Tryz.prog 99 [.ptr 10000 0] (tW xs us bk kv) (.sl 10003) ([.row 10003 71 2 aM (kI (KD xs) xs xs.length) []]++tW xs us bk kv):=
 aA.yC (ts2:=[.row 10003 71 2 aM (kI (KD xs) xs xs.length) []]) aH [61] NY (Xy xs hl hp) rfl rfl rfl
section
variable (xs:List aj)(us:List Value)(bk:List (List aj))(kv:List (Int×Bool))(ev:List bZ)
end
end Go.Proofs.YtjijpkphkicoeaaGreat
namespace Go.Proofs.YtjijpkphkicoeaaGreat
open Go Go.RowKit Go.Proofs Go.Tr
theorem RZ:bH Tryz.prog 50=true:=by kernel_rfl
theorem Xz(ys:List aj)(hl:ys.length≤1000000)(h0:0<ys.length)(hp:∀i:Nat,i<ys.length→bS ys i=true→0<(ah ys (i:Nat)).2.2.2.2.length):aA Tryz.prog 50 [.rp aR ys] [] (.sl 10000) [.row 10000 71 2 aM (dO ys) []]:=by
 refine aA.intro (nt:=52) aH mixed RZ Tryz.func50 rfl rfl rfl rfl rfl rfl ?_;refine lp Nat (fun i=>[(4,.int .i64 (i:Nat)),(3,.sl 20000)]) (fun i=>[.row 20000 71 2 aM (kI (xk ys) ys i) []]) (fun i=>ys.length-i) (fun i=>1≤i∧i≤ys.length) 1 ⟨Nat.le_refl 1,h0⟩ ?_ ?_
 ·exact hd [(20000,6)] rfl (aI (aI rfl rfl) (aI rfl trivial)) ⟨⟨(show([]:List (Int×Int))=kI (xk ys) ys 1 from(rG (c:=xk ys) (xs:=ys) (k:=0) rfl).symm),nP⟩,trivial⟩
 rintro i ⟨h1,hi⟩;have h1':1≤i:=h1;refine aI (fun q1=> ?_) (fun q1=> ?_)
 ·have hlt:i<ys.length:=ZL q1;have hk:0≤((i:Nat):Int)∧((i:Nat):Int)<(ys.length:Nat):=by omega
  refine aI hk ?_;refine aI (fun q2=> ?_) (fun q2=> ?_)
  ·have hv:bS ys i=false:=UG q2;have hr:xk ys i=false:=by unfold xk;rw[hv];cases decide (1≤i)<;>rfl
   refine aP (i+1) ⟨by omega,hlt⟩ ?_ ?_
   ·exact hd [] rfl (aI (aI (dB (by omega)) rfl) (aI rfl trivial)) ⟨⟨(rG hr).symm,nP⟩,trivial⟩
   ·show ys.length-(i+1)<ys.length-i;omega
  ·have hv:bS ys i=true:=UH q2;have hp1:=hp i hlt hv;have he:xk ys i=P7 ys i:=by unfold xk;rw[hv,decide_eq_true h1'];rfl
   refine aI hk ?_;refine aI (show(0:Int)≤0∧(0:Int)<((ah ys (i:Nat)).2.2.2.2.length:Nat) by omega) ?_;refine aI (fun q3=> ?_) (fun q3=> ?_)
   ·have hr:xk ys i=true:=by rw[he];exact q3
    refine aI (show(kI (xk ys) ys i).length+1≤1073741824 by have:=DI (xk ys) ys i;omega) ?_;refine aP (i+1) ⟨by omega,hlt⟩ ?_ ?_
    ·refine hd [(20000,50)] rfl (aI (aI (dB (by omega)) rfl) (aI rfl trivial)) ⟨⟨?_,nP⟩,trivial⟩;show kI (xk ys) ys i++[KC ys i]=kI (xk ys) ys (i+1);exact(yG hr).symm
    ·show ys.length-(i+1)<ys.length-i;omega
   ·have hr:xk ys i=false:=by rw[he];exact q3
    refine aP (i+1) ⟨by omega,hlt⟩ ?_ ?_
    ·exact hd [] rfl (aI (aI (dB (by omega)) rfl) (aI rfl trivial)) ⟨⟨(rG hr).symm,nP⟩,trivial⟩
    ·show ys.length-(i+1)<ys.length-i;omega
 ·have hge:ys.length≤i:=ZK q1;have hi':i≤ys.length:=hi;obtain rfl:i=ys.length:=by omega
  refine fin [(10000,20000)] (aI rfl ?_);exact⟨⟨rfl,nP⟩,trivial⟩
inductive TM(bk:List (List aj))(sch:List Int)(st:Int):List (Int×Bool)→List aj→List aj→List bZ→Int→List bZ→Prop
 |stop {kv:List (Int×Bool)} {xs ys:List aj} {ev:List bZ} (T:Tr.Twin kv xs ys) (w:GI (fun _=>False) xs) (hl:xs.length≤3000) (h:dO ys=[]∨st≤(ev.length:Nat)):TM bk sch st kv xs ys ev 0 ev
 |bad {kv:List (Int×Bool)} {xs ys:List aj} {ev:List bZ} (T:Tr.Twin kv xs ys) (w:GI (fun _=>False) xs) (hl:xs.length≤3000) (hp:0<(dO ys).length) (hs:((ev.length:Nat):Int)<st) (code:Int) (hc:code≠0)
  (hI:∀us,aA Tryz.prog 75 [.ptr 10000 0,vP (sQ sch (dO ys) (ev.length:Nat))] (tR xs us bk kv ev) (.int .i64 code) (tR xs us bk kv ev))
  (hS:∀us,aA Tryz.prog 72 [.rsl aR bk,.ptr 10000 0,.int .i64 (sQ sch (dO ys) (ev.length:Nat)).1,.int .i64 (sQ sch (dO ys) (ev.length:Nat)).2] (tA ys us) (.tup [vEv (0,0,0,0,0),.int .i64 code]) (tA ys us)):TM bk sch st kv xs ys ev code []
 |full {kv:List (Int×Bool)} {xs ys:List aj} {ev:List bZ} (T:Tr.Twin kv xs ys) (w:GI (fun _=>False) xs) (hl:xs.length≤3000) (hp:0<(dO ys).length) (hs:((ev.length:Nat):Int)<st) (code:Int) (hc:code≠0) (x' y':List aj) (kv':List (Int×Bool)) (ev':List bZ)
  (hI:∀us,aA Tryz.prog 75 [.ptr 10000 0,vP (sQ sch (dO ys) (ev.length:Nat))] (tR xs us bk kv ev) (.int .i64 code) (tRn 10005 10006 x' us bk kv' ev'))
  (hS:∀us,aA Tryz.prog 72 [.rsl aR bk,.ptr 10000 0,.int .i64 (sQ sch (dO ys) (ev.length:Nat)).1,.int .i64 (sQ sch (dO ys) (ev.length:Nat)).2] (tA ys us) (.tup [vEv (0,0,0,0,0),.int .i64 code]) (TH 10002 y' [])):TM bk sch st kv xs ys ev code []
 |next {kv:List (Int×Bool)} {xs ys:List aj} {ev:List bZ} (T:Tr.Twin kv xs ys) (w:GI (fun _=>False) xs) (hl:xs.length≤3000) (hp:0<(dO ys).length) (hs:((ev.length:Nat):Int)<st) (x' y':List aj) (kv':List (Int×Bool)) (e:bZ) {code:Int} {out:List bZ}
  (hI:∀us,aA Tryz.prog 75 [.ptr 10000 0,vP (sQ sch (dO ys) (ev.length:Nat))] (tR xs us bk kv ev) (.int .i64 0) (tRn 10005 10006 x' us bk kv' (ev++[e])))
  (hS:∀us,aA Tryz.prog 72 [.rsl aR bk,.ptr 10000 0,.int .i64 (sQ sch (dO ys) (ev.length:Nat)).1,.int .i64 (sQ sch (dO ys) (ev.length:Nat)).2] (tA ys us) (.tup [vEv e,.int .i64 0]) (TH 10002 y' [])) (r:TM bk sch st kv' x' y' (ev++[e]) code out):TM bk sch st kv xs ys ev code out
theorem TM.tw{bk:List (List aj)}{sch:List Int}{st:Int}{kv:List (Int×Bool)}{xs ys:List aj}{ev:List bZ}{c:Int}{out:List bZ}(h:TM bk sch st kv xs ys ev c out):Tr.Twin kv xs ys∧xs.length≤3000:=by
 cases h with
 |stop T _ hl=>exact⟨T,hl⟩
 |bad T _ hl=>exact⟨T,hl⟩
 |full T _ hl=>exact⟨T,hl⟩
 |next T _ hl=>exact⟨T,hl⟩
theorem TM.wl{bk:List (List aj)}{sch:List Int}{st:Int}{kv:List (Int×Bool)}{xs ys:List aj}{ev:List bZ}{c:Int}{out:List bZ}(h:TM bk sch st kv xs ys ev c out):GI (fun _=>False) xs:=by
 cases h with
 |stop _ w=>exact w
 |bad _ w=>exact w
 |full _ w=>exact w
 |next _ w=>exact w
theorem VU:bH Tryz.prog 168=true:=by kernel_rfl
theorem selQ(sch:List Int)(ps:List (Int×Int))(k:Int)(hs:∀z∈sch,0≤z)(hk:0≤k)(hp:0<ps.length):aO Tryz.prog 168 [.rsl (.int .i64) sch,.rsl aM ps,.int .i64 k] (vP (sQ sch ps k)):=by
 refine aO.intro (nt:=25) aH mixed VU Tryz.func168 rfl rfl rfl rfl rfl ?_;have hb:=Cc hs (n:=((ps.length:Nat):Int)) (by omega) k;refine aI (fun q1=> ?_) (fun q1=> ?_)
 ·have q2:decide (0<((sch.length:Nat):Int))=true:=q1;have q3:0<((sch.length:Nat):Int):=by simpa using q2
  have e:elt 0 sch (k.tmod ((sch.length:Nat):Int))=AP sch k:=by unfold AP;rw[q2];rfl
  refine aI (show((sch.length:Nat):Int)≠0 by omega) ?_;refine aI (Ou hk q3) ?_;refine aI (show((ps.length:Nat):Int)≠0 by omega) ?_;refine aI ?_ ?_
  ·show 0≤(elt 0 sch (k.tmod ((sch.length:Nat):Int))).tmod _∧(elt 0 sch (k.tmod ((sch.length:Nat):Int))).tmod _<_;rw[e];exact hb
  ·have e2:sQ sch ps k=elt (dflt aM) ps ((elt 0 sch (k.tmod ((sch.length:Nat):Int))).tmod ((ps.length:Nat):Int)):=by rw[e];rfl
   rw[e2];exact rfl
 ·have q2:decide (0<((sch.length:Nat):Int))=false:=q1;have e:(0:Int)=AP sch k:=by unfold AP;rw[q2];rfl
  refine aI (show((ps.length:Nat):Int)≠0 by omega) ?_;refine aI ?_ ?_
  ·show 0≤(0:Int).tmod ((ps.length:Nat):Int)∧(0:Int).tmod ((ps.length:Nat):Int)<((ps.length:Nat):Int);rw[Int.zero_tmod];omega
  ·have e2:sQ sch ps k=elt (dflt aM) ps ((0:Int).tmod ((ps.length:Nat):Int)):=by unfold sQ Mq;rw[←e]
   rw[e2];exact rfl
def mg(a b:Bool):Int:=bif a then(bif b then 0 else 2)else 1
noncomputable def ku(bk:List (List aj))(xs:List aj):Bool:=lG (bk.map gN)&&iE (gN xs)
theorem Tp(bk:List (List aj))(xs:List aj)(h:(bif !lG (bk.map gN)then true else !iE (gN xs))=true):ku bk xs=false:=by
 unfold ku;revert h;cases lG (bk.map gN)<;>cases iE (gN xs)<;>simp
theorem Wt(bk:List (List aj))(xs:List aj)(h:(bif !lG (bk.map gN)then true else !iE (gN xs))=false):ku bk xs=true:=by
 unfold ku;revert h;cases lG (bk.map gN)<;>cases iE (gN xs)<;>simp
theorem Ql(m st:Int):(!([st].any (U0 m)))=dX st 0 m:=by
 unfold dX U0;simp only[List.any_cons,List.any_nil,Bool.or_false]
 by_cases h1:st<0
 ·rw[decide_eq_true h1,decide_eq_false (show ¬0≤st by omega)];rfl
 ·rw[decide_eq_false h1,decide_eq_true (show 0≤st by omega),qH,Bool.true_and]
  by_cases h2:m<st
  ·rw[decide_eq_true h2,decide_eq_false (show ¬st≤m by omega)];rfl
  ·rw[decide_eq_false h2,decide_eq_true (show st≤m by omega)];rfl
section
variable (bk:List (List aj))(xs:List aj)(sch:List Int)(st:Int)
end
end Go.Proofs.YtjijpkphkicoeaaGreat
namespace Go.Proofs.YtjijpkphkicoeaaGreat
open Go Go.RowKit Go.Proofs Go.Tr
section
variable (bk:List (List aj))(xs:List aj)(sch:List Int)(st:Int)
theorem WL:aO Tryz.prog 47 [.rsl aR bk,.rp aR xs,.rsl (.int .i64) sch,.int .i64 st] (.int .i64 (mg (ku bk xs) (bY sch&&dX st 0 4000))):=by
 refine aO.intro (nt:=25) aH mixed (by kernel_rfl) Tryz.func47 rfl rfl rfl rfl rfl ?_;refine Or.inl (eI _ (aI (Yx bk) ?_));refine Or.inl (eI _ (aI (fun _=>netQ xs) ?_));refine aI (fun q=> ?_) (fun q=> ?_)
 ·have e:(1:Int)=mg (ku bk xs) (bY sch&&dX st 0 4000):=by rw[Tp bk xs q];rfl
  exact⟨e,rfl⟩
 have hv:=Wt bk xs q;refine Or.inl (eI _ (aI (XP sch) ?_));refine Or.inl (eI _ (aI (fun _=>H8 st 0 4000) ?_));refine aI (fun q1=> ?_) (fun q1=> ?_)
 ·have q2:(bif !bY sch then true else !dX st 0 4000)=true:=q1
  have e:(2:Int)=mg (ku bk xs) (bY sch&&dX st 0 4000):=by
   rw[hv];revert q2;cases bY sch<;>cases dX st 0 4000<;>simp[mg]
  exact⟨e,rfl⟩
 ·have q2:(bif !bY sch then true else !dX st 0 4000)=false:=q1
  have e:(0:Int)=mg (ku bk xs) (bY sch&&dX st 0 4000):=by
   rw[hv];revert q2;cases bY sch<;>cases dX st 0 4000<;>simp[mg]
  exact⟨e,rfl⟩
theorem Wn(ps:List (Int×Int))(k:Int)(h:decide (0<((sch.length:Nat):Int))=true):elt (dflt aM) ps ((elt 0 sch (k.tmod ((sch.length:Nat):Int))).tmod ((ps.length:Nat):Int))=sQ sch ps k:=by
 unfold sQ Mq AP;rw[h];rfl
theorem Wm(ps:List (Int×Int))(k:Int)(h:decide (0<((sch.length:Nat):Int))=false):elt (dflt aM) ps 0=sQ sch ps k:=by
 unfold sQ Mq AP;rw[h,qH,Int.zero_tmod]
end
end Go.Proofs.YtjijpkphkicoeaaGreat
namespace Go.Proofs.YtjijpkphkicoeaaGreat
open Go Go.RowKit Go.Proofs Go.Tr
theorem selE(sch:List Int)(ps:List (Int×Int))(k:Int)(hs:∀z∈sch,0≤z)(hk:0≤k)(hp:0<ps.length):aA Tryz.prog 168 [.rsl (.int .i64) sch,.sl 10000,.int .i64 k] [.row 10000 71 2 aM ps []] (vP (sQ sch ps k)) [.row 10000 71 2 aM ps []]:=aA.oh aH [0,67,0] VU (selQ sch ps k hs hk hp) rfl
section
variable (bk:List (List aj))(xs:List aj)(sch:List Int)(st:Int)
end
end Go.Proofs.YtjijpkphkicoeaaGreat
