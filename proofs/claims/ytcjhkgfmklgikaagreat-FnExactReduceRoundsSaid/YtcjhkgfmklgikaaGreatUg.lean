
/- The program's pairs of a net. -/
import Derived.Test.YtcjhkgfmklgikaaGreatShort
import Derived.Test.YtcjhkgfmklgikaaGreatIo
import Derived.Test.YtcjhkgfmklgikaaGreatVV
import Derived.Test.YtcjhkgfmklgikaaGreatYd
import Derived.Test.YtcjhkgfmklgikaaGreatRg
import Derived.Test.YtcjhkgfmklgikaaGreatRa
set_option maxRecDepth 100000
set_option linter.unusedSimpArgs false
set_option linter.unusedVariables false
namespace Go.Proofs.YtcjhkgfmklgikaaGreat
open Go Go.RowKit Go.Proofs Go.Tr
theorem ltU{k n:Nat}(h:decide (((k:Nat):Int)<((n:Nat):Int))=true):k<n:=by simp only[qQ]at h;omega
theorem geU{k n:Nat}(h:decide (((k:Nat):Int)<((n:Nat):Int))=false):n≤k:=by simp only[qP]at h;omega
theorem ZaO:bK Tryz.prog 67=true:=by kernel_rfl
theorem ZbI(xs:List aj)(hl:xs.length≤1000000)(hp:Vf xs):aA Tryz.prog 67 [.rp bO xs] [] (.sl 10000) [.row 10000 62 2 aR (sP (WR xs) xs xs.length) []]:=by
 refine aA.intro (nt:=44) aJ mixed ZaO Tryz.func67 rfl rfl rfl rfl rfl rfl ?_;refine lp Nat (fun i=>[(12,.int .i64 (i:Nat)),(3,.sl 20000)]) (fun i=>[.row 20000 62 2 aR (sP (WR xs) xs i) []]) (fun i=>xs.length-i) (fun i=>i≤xs.length) 0 (Nat.zero_le _) ?_ ?_
 ·exact Tz [⟨3,30000,62,2,aR⟩] [(20000,30000)] rfl (aI (aI (aI rfl rfl) (aI rfl trivial)) ⟨⟨rfl,nP⟩,trivial⟩)
 intro i hi;refine aI (fun q1=> ?_) (fun q1=> ?_)
 ·have hlt:i<xs.length:=ltU q1;have hp1:=hp i hlt;refine aI (show 0≤((i:Nat):Int)∧((i:Nat):Int)<(xs.length:Nat) by omega) ?_;refine aI (show(0:Int)≤0∧(0:Int)<((ah xs (i:Nat)).2.2.2.2.length:Nat) by omega) ?_;refine aI (fun q2=> ?_) (fun q2=> ?_)
  ·have hc:WR xs i=true:=q2;refine aI (show(sP (WR xs) xs i).length+1≤1073741824 by have:=Ro (WR xs) xs i;omega) ?_;refine bB (i+1) hlt ?_ ?_
   ·refine hd [(20000,41)] rfl (aI (aI (eB (by omega)) rfl) (aI rfl trivial)) ⟨⟨?_,nP⟩,trivial⟩;show sP (WR xs) xs i++[Ld xs i]=sP (WR xs) xs (i+1);exact(Dq hc).symm
   ·show xs.length-(i+1)<xs.length-i;omega
  ·have hc:WR xs i=false:=q2;refine bB (i+1) hlt ?_ ?_
   ·exact hd [] rfl (aI (aI (eB (by omega)) rfl) (aI rfl trivial)) ⟨⟨(yu hc).symm,nP⟩,trivial⟩
   ·show xs.length-(i+1)<xs.length-i;omega
 ·have hge:xs.length≤i:=geU q1;have hi':i≤xs.length:=hi;obtain rfl:i=xs.length:=by omega
  refine fin [(10000,20000)] (aI rfl ?_);exact⟨⟨rfl,nP⟩,trivial⟩
theorem ZbK(xs:List aj)(us:List Value)(bk:List (List aj))(kv:List (Int×Bool))(hl:xs.length≤1000000)(hp:Vf xs):
  aA Tryz.prog 67 [.ptr 10000 0] (tW xs us bk kv) (.sl 10003) ([.row 10003 62 2 aR (sP (WR xs) xs xs.length) []]++tW xs us bk kv):=
 aA.Ey (ts2:=[.row 10003 62 2 aR (sP (WR xs) xs xs.length) []]) aJ [51] ZaO (ZbI xs hl hp) rfl rfl rfl
section
variable (xs:List aj)(us:List Value)(bk:List (List aj))(kv:List (Int×Bool))(ev:List aT)
end
end Go.Proofs.YtcjhkgfmklgikaaGreat
namespace Go.Proofs.YtcjhkgfmklgikaaGreat
open Go Go.RowKit Go.Proofs Go.Tr
theorem Zbg:bK Tryz.prog 28=true:=by kernel_rfl
theorem ZbJ(ys:List aj)(hl:ys.length≤1000000)(h0:0<ys.length)(hp:∀i:Nat,i<ys.length→dL ys i=true→0<(ah ys (i:Nat)).2.2.2.2.length):aA Tryz.prog 28 [.rp bO ys] [] (.sl 10000) [.row 10000 62 2 aR (kH ys) []]:=by
 refine aA.intro (nt:=52) aJ mixed Zbg Tryz.func28 rfl rfl rfl rfl rfl rfl ?_;refine lp Nat (fun i=>[(4,.int .i64 (i:Nat)),(3,.sl 20000)]) (fun i=>[.row 20000 62 2 aR (sP (ED ys) ys i) []]) (fun i=>ys.length-i) (fun i=>1≤i∧i≤ys.length) 1 ⟨Nat.le_refl 1,h0⟩ ?_ ?_
 ·exact hd [(20000,6)] rfl (aI (aI rfl rfl) (aI rfl trivial)) ⟨⟨(show([]:List (Int×Int))=sP (ED ys) ys 1 from(yu (c:=ED ys) (xs:=ys) (k:=0) rfl).symm),nP⟩,trivial⟩
 rintro i ⟨h1,hi⟩;have h1':1≤i:=h1;refine aI (fun q1=> ?_) (fun q1=> ?_)
 ·have hlt:i<ys.length:=ltU q1;have hk:0≤((i:Nat):Int)∧((i:Nat):Int)<(ys.length:Nat):=by omega
  refine aI hk ?_;refine aI (fun q2=> ?_) (fun q2=> ?_)
  ·have hv:dL ys i=false:=Yq q2;have hr:ED ys i=false:=by unfold ED;rw[hv];cases decide (1≤i)<;>rfl
   refine bB (i+1) ⟨by omega,hlt⟩ ?_ ?_
   ·exact hd [] rfl (aI (aI (eB (by omega)) rfl) (aI rfl trivial)) ⟨⟨(yu hr).symm,nP⟩,trivial⟩
   ·show ys.length-(i+1)<ys.length-i;omega
  ·have hv:dL ys i=true:=Yr q2;have hp1:=hp i hlt hv;have he:ED ys i=Rn ys i:=by unfold ED;rw[hv,decide_eq_true h1'];rfl
   refine aI hk ?_;refine aI (show(0:Int)≤0∧(0:Int)<((ah ys (i:Nat)).2.2.2.2.length:Nat) by omega) ?_;refine aI (fun q3=> ?_) (fun q3=> ?_)
   ·have hr:ED ys i=true:=by rw[he];exact q3
    refine aI (show(sP (ED ys) ys i).length+1≤1073741824 by have:=Ro (ED ys) ys i;omega) ?_;refine bB (i+1) ⟨by omega,hlt⟩ ?_ ?_
    ·refine hd [(20000,50)] rfl (aI (aI (eB (by omega)) rfl) (aI rfl trivial)) ⟨⟨?_,nP⟩,trivial⟩;show sP (ED ys) ys i++[Ld ys i]=sP (ED ys) ys (i+1);exact(Dq hr).symm
    ·show ys.length-(i+1)<ys.length-i;omega
   ·have hr:ED ys i=false:=by rw[he];exact q3
    refine bB (i+1) ⟨by omega,hlt⟩ ?_ ?_
    ·exact hd [] rfl (aI (aI (eB (by omega)) rfl) (aI rfl trivial)) ⟨⟨(yu hr).symm,nP⟩,trivial⟩
    ·show ys.length-(i+1)<ys.length-i;omega
 ·have hge:ys.length≤i:=geU q1;have hi':i≤ys.length:=hi;obtain rfl:i=ys.length:=by omega
  refine fin [(10000,20000)] (aI rfl ?_);exact⟨⟨rfl,nP⟩,trivial⟩
inductive Sw(bk:List (List aj))(sch:List Int)(st:Int):List (Int×Bool)→List aj→List aj→List aT→Int→List aT→Prop
 |stop {kv:List (Int×Bool)} {xs ys:List aj} {ev:List aT} (T:Tr.Twin kv xs ys) (w:yI (fun _=>False) xs) (hl:xs.length≤3000) (h:kH ys=[]∨st≤(ev.length:Nat)):Sw bk sch st kv xs ys ev 0 ev
 |bad {kv:List (Int×Bool)} {xs ys:List aj} {ev:List aT} (T:Tr.Twin kv xs ys) (w:yI (fun _=>False) xs) (hl:xs.length≤3000) (hp:0<(kH ys).length) (hs:((ev.length:Nat):Int)<st) (code:Int) (hc:code≠0)
  (hI:∀us,aA Tryz.prog 49 [.ptr 10000 0,vP (HV sch (kH ys) (ev.length:Nat))] (tR xs us bk kv ev) (.int .i64 code) (tR xs us bk kv ev))
  (hS:∀us,aA Tryz.prog 45 [.rsl bO bk,.ptr 10000 0,.int .i64 (HV sch (kH ys) (ev.length:Nat)).1,.int .i64 (HV sch (kH ys) (ev.length:Nat)).2] (tA ys us) (.tup [OP (0,0,0,0,0),.int .i64 code]) (tA ys us)):Sw bk sch st kv xs ys ev code []
 |full {kv:List (Int×Bool)} {xs ys:List aj} {ev:List aT} (T:Tr.Twin kv xs ys) (w:yI (fun _=>False) xs) (hl:xs.length≤3000) (hp:0<(kH ys).length) (hs:((ev.length:Nat):Int)<st) (code:Int) (hc:code≠0) (x' y':List aj) (kv':List (Int×Bool)) (ev':List aT)
  (hI:∀us,aA Tryz.prog 49 [.ptr 10000 0,vP (HV sch (kH ys) (ev.length:Nat))] (tR xs us bk kv ev) (.int .i64 code) (Un 10005 10006 x' us bk kv' ev'))
  (hS:∀us,aA Tryz.prog 45 [.rsl bO bk,.ptr 10000 0,.int .i64 (HV sch (kH ys) (ev.length:Nat)).1,.int .i64 (HV sch (kH ys) (ev.length:Nat)).2] (tA ys us) (.tup [OP (0,0,0,0,0),.int .i64 code]) (J3 10002 y' [])):Sw bk sch st kv xs ys ev code []
 |next {kv:List (Int×Bool)} {xs ys:List aj} {ev:List aT} (T:Tr.Twin kv xs ys) (w:yI (fun _=>False) xs) (hl:xs.length≤3000) (hp:0<(kH ys).length) (hs:((ev.length:Nat):Int)<st) (x' y':List aj) (kv':List (Int×Bool)) (e:aT) {code:Int} {out:List aT}
  (hI:∀us,aA Tryz.prog 49 [.ptr 10000 0,vP (HV sch (kH ys) (ev.length:Nat))] (tR xs us bk kv ev) (.int .i64 0) (Un 10005 10006 x' us bk kv' (ev++[e])))
  (hS:∀us,aA Tryz.prog 45 [.rsl bO bk,.ptr 10000 0,.int .i64 (HV sch (kH ys) (ev.length:Nat)).1,.int .i64 (HV sch (kH ys) (ev.length:Nat)).2] (tA ys us) (.tup [OP e,.int .i64 0]) (J3 10002 y' [])) (r:Sw bk sch st kv' x' y' (ev++[e]) code out):Sw bk sch st kv xs ys ev code out
theorem Sw.tw{bk:List (List aj)}{sch:List Int}{st:Int}{kv:List (Int×Bool)}{xs ys:List aj}{ev:List aT}{c:Int}{out:List aT}(h:Sw bk sch st kv xs ys ev c out):Tr.Twin kv xs ys∧xs.length≤3000:=by
 cases h with
 |stop T _ hl=>exact⟨T,hl⟩
 |bad T _ hl=>exact⟨T,hl⟩
 |full T _ hl=>exact⟨T,hl⟩
 |next T _ hl=>exact⟨T,hl⟩
theorem Sw.wl{bk:List (List aj)}{sch:List Int}{st:Int}{kv:List (Int×Bool)}{xs ys:List aj}{ev:List aT}{c:Int}{out:List aT}(h:Sw bk sch st kv xs ys ev c out):yI (fun _=>False) xs:=by
 cases h with
 |stop _ w=>exact w
 |bad _ w=>exact w
 |full _ w=>exact w
 |next _ w=>exact w
def nT(a b:Bool):Int:=bif a then(bif b then 0 else 2)else 1
noncomputable def lF(bk:List (List aj))(xs:List aj):Bool:=lH (bk.map gN)&&iG (gN xs)
theorem R8(bk:List (List aj))(xs:List aj)(h:(bif !lH (bk.map gN)then true else !iG (gN xs))=true):lF bk xs=false:=by
 unfold lF;revert h;cases lH (bk.map gN)<;>cases iG (gN xs)<;>simp
theorem Vb(bk:List (List aj))(xs:List aj)(h:(bif !lH (bk.map gN)then true else !iG (gN xs))=false):lF bk xs=true:=by
 unfold lF;revert h;cases lH (bk.map gN)<;>cases iG (gN xs)<;>simp
theorem Vm(m st:Int):(!([st].any (Bu m)))=dS st 0 m:=by
 unfold dS Bu;simp only[List.any_cons,List.any_nil,Bool.or_false]
 by_cases h1:st<0
 ·rw[decide_eq_true h1,decide_eq_false (show ¬0≤st by omega)];rfl
 ·rw[decide_eq_false h1,decide_eq_true (show 0≤st by omega),qH,Bool.true_and]
  by_cases h2:m<st
  ·rw[decide_eq_true h2,decide_eq_false (show ¬st≤m by omega)];rfl
  ·rw[decide_eq_false h2,decide_eq_true (show st≤m by omega)];rfl
section
variable (bk:List (List aj))(xs:List aj)(sch:List Int)(st:Int)
end
end Go.Proofs.YtcjhkgfmklgikaaGreat
namespace Go.Proofs.YtcjhkgfmklgikaaGreat
open Go Go.RowKit Go.Proofs Go.Tr
theorem Zbd:bK Tryz.prog 25=true:=by kernel_rfl
section
variable (bk:List (List aj))(xs:List aj)(sch:List Int)(st:Int)
theorem YJ:aN Tryz.prog 25 [.rsl bO bk,.rp bO xs,.rsl (.int .i64) sch,.int .i64 st] (.int .i64 (nT (lF bk xs) (dM sch&&dS st 0 4000))):=by
 refine aN.intro (nt:=25) aJ mixed Zbd Tryz.func25 rfl rfl rfl rfl rfl ?_;refine Or.inl (eI _ (aI (Xi bk) ?_));refine Or.inl (eI _ (aI (fun _=>Zv xs) ?_));refine aI (fun q=> ?_) (fun q=> ?_)
 ·have e:(1:Int)=nT (lF bk xs) (dM sch&&dS st 0 4000):=by rw[R8 bk xs q];rfl
  exact⟨e,rfl⟩
 have hv:=Vb bk xs q;refine Or.inl (eI _ (aI (Wo sch) ?_));refine Or.inl (eI _ (aI (fun _=>Fg st 0 4000) ?_));refine aI (fun q1=> ?_) (fun q1=> ?_)
 ·have q2:(bif !dM sch then true else !dS st 0 4000)=true:=q1
  have e:(2:Int)=nT (lF bk xs) (dM sch&&dS st 0 4000):=by
   rw[hv];revert q2;cases dM sch<;>cases dS st 0 4000<;>simp[nT]
  exact⟨e,rfl⟩
 ·have q2:(bif !dM sch then true else !dS st 0 4000)=false:=q1
  have e:(0:Int)=nT (lF bk xs) (dM sch&&dS st 0 4000):=by
   rw[hv];revert q2;cases dM sch<;>cases dS st 0 4000<;>simp[nT]
  exact⟨e,rfl⟩
end
end Go.Proofs.YtcjhkgfmklgikaaGreat
namespace Go.Proofs.YtcjhkgfmklgikaaGreat
open Go Go.RowKit Go.Proofs Go.Tr
section
variable (bk:List (List aj))(xs:List aj)(sch:List Int)(st:Int)
end
end Go.Proofs.YtcjhkgfmklgikaaGreat
