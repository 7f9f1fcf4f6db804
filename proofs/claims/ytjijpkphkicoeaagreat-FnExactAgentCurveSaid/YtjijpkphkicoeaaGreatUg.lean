
/- The program's pairs of a net. -/
import Derived.Test.YtjijpkphkicoeaaGreatShort
import Derived.Test.YtjijpkphkicoeaaGreatIo
import Derived.Test.YtjijpkphkicoeaaGreatVV
import Derived.Test.YtjijpkphkicoeaaGreatYd
import Derived.Test.YtjijpkphkicoeaaGreatRn
import Derived.Test.YtjijpkphkicoeaaGreatRa
set_option maxRecDepth 100000
set_option linter.unusedSimpArgs false
set_option linter.unusedVariables false
namespace Go.Proofs.YtjijpkphkicoeaaGreat
open Go Go.RowKit Go.Proofs Go.Tr
theorem ltU{k n:Nat}(h:decide (((k:Nat):Int)<((n:Nat):Int))=true):k<n:=by simp only[decide_eq_true_eq]at h;omega
theorem geU{k n:Nat}(h:decide (((k:Nat):Int)<((n:Nat):Int))=false):n≤k:=by simp only[decide_eq_false_iff_not]at h;omega
theorem JC:callOk Tryz.prog 99=true:=by kernel_rfl
theorem Ru(xs:List NAgent)(hl:xs.length≤1000000)(hp:Cv xs):FCall Tryz.prog 99 [.rp uNet xs] [] (.sl 10000) [.row 10000 71 2 uPort (prTo (FV xs) xs xs.length) []]:=by
 refine FCall.intro (nt:=44) ti_ok mixed JC Tryz.func99 rfl rfl rfl rfl rfl rfl ?_;refine lp Nat (fun i=>[(12,.int .i64 (i:Nat)),(3,.sl 20000)]) (fun i=>[.row 20000 71 2 uPort (prTo (FV xs) xs i) []]) (fun i=>xs.length-i) (fun i=>i≤xs.length) 0 (Nat.zero_le _) ?_ ?_
 ·exact hdm [⟨3,30000,71,2,uPort⟩] [(20000,30000)] rfl (aI (aI (aI rfl rfl) (aI rfl trivial)) ⟨⟨rfl,nP⟩,trivial⟩)
 intro i hi;refine aI (fun q1=> ?_) (fun q1=> ?_)
 ·have hlt:i<xs.length:=ltU q1;have hp1:=hp i hlt;refine aI (show 0≤((i:Nat):Int)∧((i:Nat):Int)<(xs.length:Nat) by omega) ?_;refine aI (show(0:Int)≤0∧(0:Int)<((agAt xs (i:Nat)).2.2.2.2.length:Nat) by omega) ?_;refine aI (fun q2=> ?_) (fun q2=> ?_)
  ·have hc:FV xs i=true:=q2;refine aI (show(prTo (FV xs) xs i).length+1≤1073741824 by have:=zP (FV xs) xs i;omega) ?_;refine lp_next (i+1) hlt ?_ ?_
   ·refine hd [(20000,41)] rfl (aI (aI (wrapS (by omega)) rfl) (aI rfl trivial)) ⟨⟨?_,nP⟩,trivial⟩;show prTo (FV xs) xs i++[prA xs i]=prTo (FV xs) xs (i+1);exact(uI hc).symm
   ·show xs.length-(i+1)<xs.length-i;omega
  ·have hc:FV xs i=false:=q2;refine lp_next (i+1) hlt ?_ ?_
   ·exact hd [] rfl (aI (aI (wrapS (by omega)) rfl) (aI rfl trivial)) ⟨⟨(nS hc).symm,nP⟩,trivial⟩
   ·show xs.length-(i+1)<xs.length-i;omega
 ·have hge:xs.length≤i:=geU q1;have hi':i≤xs.length:=hi;obtain rfl:i=xs.length:=by omega
  refine fin [(10000,20000)] (aI rfl ?_);exact⟨⟨rfl,nP⟩,trivial⟩
theorem Rw(xs:List NAgent)(us:List Value)(bk:List (List NAgent))(kv:List (Int×Bool))(hl:xs.length≤1000000)(hp:Cv xs):
  FCall Tryz.prog 99 [.ptr 10000 0] (tW xs us bk kv) (.sl 10003) ([.row 10003 71 2 uPort (prTo (FV xs) xs xs.length) []]++tW xs us bk kv):=
 FCall.of_f (ts2:=[.row 10003 71 2 uPort (prTo (FV xs) xs xs.length) []]) ti_ok [61] JC (Ru xs hl hp) rfl rfl rfl
section
variable (xs:List NAgent)(us:List Value)(bk:List (List NAgent))(kv:List (Int×Bool))(ev:List NEvent)
end
end Go.Proofs.YtjijpkphkicoeaaGreat
namespace Go.Proofs.YtjijpkphkicoeaaGreat
open Go Go.RowKit Go.Proofs Go.Tr
theorem MU:callOk Tryz.prog 50=true:=by kernel_rfl
theorem Rv(ys:List NAgent)(hl:ys.length≤1000000)(h0:0<ys.length)(hp:∀i:Nat,i<ys.length→liveY ys i=true→0<(agAt ys (i:Nat)).2.2.2.2.length):FCall Tryz.prog 50 [.rp uNet ys] [] (.sl 10000) [.row 10000 71 2 uPort (prsN ys) []]:=by
 refine FCall.intro (nt:=52) ti_ok mixed MU Tryz.func50 rfl rfl rfl rfl rfl rfl ?_;refine lp Nat (fun i=>[(4,.int .i64 (i:Nat)),(3,.sl 20000)]) (fun i=>[.row 20000 71 2 uPort (prTo (prR ys) ys i) []]) (fun i=>ys.length-i) (fun i=>1≤i∧i≤ys.length) 1 ⟨Nat.le_refl 1,h0⟩ ?_ ?_
 ·exact hd [(20000,6)] rfl (aI (aI rfl rfl) (aI rfl trivial)) ⟨⟨(show([]:List (Int×Int))=prTo (prR ys) ys 1 from(nS (c:=prR ys) (xs:=ys) (k:=0) rfl).symm),nP⟩,trivial⟩
 rintro i ⟨h1,hi⟩;have h1':1≤i:=h1;refine aI (fun q1=> ?_) (fun q1=> ?_)
 ·have hlt:i<ys.length:=ltU q1;have hk:0≤((i:Nat):Int)∧((i:Nat):Int)<(ys.length:Nat):=by omega
  refine aI hk ?_;refine aI (fun q2=> ?_) (fun q2=> ?_)
  ·have hv:liveY ys i=false:=OU q2;have hr:prR ys i=false:=by unfold prR;rw[hv];cases decide (1≤i)<;>rfl
   refine lp_next (i+1) ⟨by omega,hlt⟩ ?_ ?_
   ·exact hd [] rfl (aI (aI (wrapS (by omega)) rfl) (aI rfl trivial)) ⟨⟨(nS hr).symm,nP⟩,trivial⟩
   ·show ys.length-(i+1)<ys.length-i;omega
  ·have hv:liveY ys i=true:=OV q2;have hp1:=hp i hlt hv;have he:prR ys i=prD ys i:=by unfold prR;rw[hv,decide_eq_true h1'];rfl
   refine aI hk ?_;refine aI (show(0:Int)≤0∧(0:Int)<((agAt ys (i:Nat)).2.2.2.2.length:Nat) by omega) ?_;refine aI (fun q3=> ?_) (fun q3=> ?_)
   ·have hr:prR ys i=true:=by rw[he];exact q3
    refine aI (show(prTo (prR ys) ys i).length+1≤1073741824 by have:=zP (prR ys) ys i;omega) ?_;refine lp_next (i+1) ⟨by omega,hlt⟩ ?_ ?_
    ·refine hd [(20000,50)] rfl (aI (aI (wrapS (by omega)) rfl) (aI rfl trivial)) ⟨⟨?_,nP⟩,trivial⟩;show prTo (prR ys) ys i++[prA ys i]=prTo (prR ys) ys (i+1);exact(uI hr).symm
    ·show ys.length-(i+1)<ys.length-i;omega
   ·have hr:prR ys i=false:=by rw[he];exact q3
    refine lp_next (i+1) ⟨by omega,hlt⟩ ?_ ?_
    ·exact hd [] rfl (aI (aI (wrapS (by omega)) rfl) (aI rfl trivial)) ⟨⟨(nS hr).symm,nP⟩,trivial⟩
    ·show ys.length-(i+1)<ys.length-i;omega
 ·have hge:ys.length≤i:=geU q1;have hi':i≤ys.length:=hi;obtain rfl:i=ys.length:=by omega
  refine fin [(10000,20000)] (aI rfl ?_);exact⟨⟨rfl,nP⟩,trivial⟩
inductive Oc(bk:List (List NAgent))(sch:List Int)(st:Int):List (Int×Bool)→List NAgent→List NAgent→List NEvent→Int→List NEvent→Prop
 |stop {kv:List (Int×Bool)} {xs ys:List NAgent} {ev:List NEvent} (T:Tr.Twin kv xs ys) (w:CB (fun _=>False) xs) (hl:xs.length≤3000) (h:prsN ys=[]∨st≤(ev.length:Nat)):Oc bk sch st kv xs ys ev 0 ev
 |bad {kv:List (Int×Bool)} {xs ys:List NAgent} {ev:List NEvent} (T:Tr.Twin kv xs ys) (w:CB (fun _=>False) xs) (hl:xs.length≤3000) (hp:0<(prsN ys).length) (hs:((ev.length:Nat):Int)<st) (code:Int) (hc:code≠0)
  (hI:∀us,FCall Tryz.prog 75 [.ptr 10000 0,vP (oK sch (prsN ys) (ev.length:Nat))] (tR xs us bk kv ev) (.int .i64 code) (tR xs us bk kv ev))
  (hS:∀us,FCall Tryz.prog 72 [.rsl uNet bk,.ptr 10000 0,.int .i64 (oK sch (prsN ys) (ev.length:Nat)).1,.int .i64 (oK sch (prsN ys) (ev.length:Nat)).2] (tA ys us) (.tup [UJ (0,0,0,0,0),.int .i64 code]) (tA ys us)):Oc bk sch st kv xs ys ev code []
 |full {kv:List (Int×Bool)} {xs ys:List NAgent} {ev:List NEvent} (T:Tr.Twin kv xs ys) (w:CB (fun _=>False) xs) (hl:xs.length≤3000) (hp:0<(prsN ys).length) (hs:((ev.length:Nat):Int)<st) (code:Int) (hc:code≠0) (x' y':List NAgent) (kv':List (Int×Bool)) (ev':List NEvent)
  (hI:∀us,FCall Tryz.prog 75 [.ptr 10000 0,vP (oK sch (prsN ys) (ev.length:Nat))] (tR xs us bk kv ev) (.int .i64 code) (UR 10005 10006 x' us bk kv' ev'))
  (hS:∀us,FCall Tryz.prog 72 [.rsl uNet bk,.ptr 10000 0,.int .i64 (oK sch (prsN ys) (ev.length:Nat)).1,.int .i64 (oK sch (prsN ys) (ev.length:Nat)).2] (tA ys us) (.tup [UJ (0,0,0,0,0),.int .i64 code]) (N8 10002 y' [])):Oc bk sch st kv xs ys ev code []
 |next {kv:List (Int×Bool)} {xs ys:List NAgent} {ev:List NEvent} (T:Tr.Twin kv xs ys) (w:CB (fun _=>False) xs) (hl:xs.length≤3000) (hp:0<(prsN ys).length) (hs:((ev.length:Nat):Int)<st) (x' y':List NAgent) (kv':List (Int×Bool)) (e:NEvent) {code:Int} {out:List NEvent}
  (hI:∀us,FCall Tryz.prog 75 [.ptr 10000 0,vP (oK sch (prsN ys) (ev.length:Nat))] (tR xs us bk kv ev) (.int .i64 0) (UR 10005 10006 x' us bk kv' (ev++[e])))
  (hS:∀us,FCall Tryz.prog 72 [.rsl uNet bk,.ptr 10000 0,.int .i64 (oK sch (prsN ys) (ev.length:Nat)).1,.int .i64 (oK sch (prsN ys) (ev.length:Nat)).2] (tA ys us) (.tup [UJ e,.int .i64 0]) (N8 10002 y' [])) (r:Oc bk sch st kv' x' y' (ev++[e]) code out):Oc bk sch st kv xs ys ev code out
theorem Oc.tw{bk:List (List NAgent)}{sch:List Int}{st:Int}{kv:List (Int×Bool)}{xs ys:List NAgent}{ev:List NEvent}{c:Int}{out:List NEvent}(h:Oc bk sch st kv xs ys ev c out):Tr.Twin kv xs ys∧xs.length≤3000:=by
 cases h with
 |stop T _ hl=>exact⟨T,hl⟩
 |bad T _ hl=>exact⟨T,hl⟩
 |full T _ hl=>exact⟨T,hl⟩
 |next T _ hl=>exact⟨T,hl⟩
theorem Oc.wl{bk:List (List NAgent)}{sch:List Int}{st:Int}{kv:List (Int×Bool)}{xs ys:List NAgent}{ev:List NEvent}{c:Int}{out:List NEvent}(h:Oc bk sch st kv xs ys ev c out):CB (fun _=>False) xs:=by
 cases h with
 |stop _ w=>exact w
 |bad _ w=>exact w
 |full _ w=>exact w
 |next _ w=>exact w
theorem Qm:callOk Tryz.prog 168=true:=by kernel_rfl
theorem Uz(sch:List Int)(ps:List (Int×Int))(k:Int)(hs:∀z∈sch,0≤z)(hk:0≤k)(hp:0<ps.length):QCall Tryz.prog 168 [.rsl (.int .i64) sch,.rsl uPort ps,.int .i64 k] (vP (oK sch ps k)):=by
 refine QCall.intro (nt:=25) ti_ok mixed Qm Tryz.func168 rfl rfl rfl rfl rfl ?_;have hb:=wo hs (n:=((ps.length:Nat):Int)) (by omega) k;refine aI (fun q1=> ?_) (fun q1=> ?_)
 ·have q2:decide (0<((sch.length:Nat):Int))=true:=q1;have q3:0<((sch.length:Nat):Int):=by simpa using q2
  have e:elt 0 sch (k.tmod ((sch.length:Nat):Int))=rU sch k:=by unfold rU;rw[q2];rfl
  refine aI (show((sch.length:Nat):Int)≠0 by omega) ?_;refine aI (Cn hk q3) ?_;refine aI (show((ps.length:Nat):Int)≠0 by omega) ?_;refine aI ?_ ?_
  ·show 0≤(elt 0 sch (k.tmod ((sch.length:Nat):Int))).tmod _∧(elt 0 sch (k.tmod ((sch.length:Nat):Int))).tmod _<_;rw[e];exact hb
  ·have e2:oK sch ps k=elt (dflt uPort) ps ((elt 0 sch (k.tmod ((sch.length:Nat):Int))).tmod ((ps.length:Nat):Int)):=by rw[e];rfl
   rw[e2];exact rfl
 ·have q2:decide (0<((sch.length:Nat):Int))=false:=q1;have e:(0:Int)=rU sch k:=by unfold rU;rw[q2];rfl
  refine aI (show((ps.length:Nat):Int)≠0 by omega) ?_;refine aI ?_ ?_
  ·show 0≤(0:Int).tmod ((ps.length:Nat):Int)∧(0:Int).tmod ((ps.length:Nat):Int)<((ps.length:Nat):Int);rw[Int.zero_tmod];omega
  ·have e2:oK sch ps k=elt (dflt uPort) ps ((0:Int).tmod ((ps.length:Nat):Int)):=by unfold oK Ib;rw[←e]
   rw[e2];exact rfl
def askN(a b:Bool):Int:=bif a then(bif b then 0 else 2)else 1
noncomputable def vldB(bk:List (List NAgent))(xs:List NAgent):Bool:=jB (bk.map gN)&&eT (gN xs)
theorem NQ(bk:List (List NAgent))(xs:List NAgent)(h:(bif !jB (bk.map gN)then true else !eT (gN xs))=true):vldB bk xs=false:=by
 unfold vldB;revert h;cases jB (bk.map gN)<;>cases eT (gN xs)<;>simp
theorem QA(bk:List (List NAgent))(xs:List NAgent)(h:(bif !jB (bk.map gN)then true else !eT (gN xs))=false):vldB bk xs=true:=by
 unfold vldB;revert h;cases jB (bk.map gN)<;>cases eT (gN xs)<;>simp
theorem Lf(m st:Int):(!([st].any (Pm m)))=inB st 0 m:=by
 unfold inB Pm;simp only[List.any_cons,List.any_nil,Bool.or_false]
 by_cases h1:st<0
 ·rw[decide_eq_true h1,decide_eq_false (show ¬0≤st by omega)];rfl
 ·rw[decide_eq_false h1,decide_eq_true (show 0≤st by omega),cond_false,Bool.true_and]
  by_cases h2:m<st
  ·rw[decide_eq_true h2,decide_eq_false (show ¬st≤m by omega)];rfl
  ·rw[decide_eq_false h2,decide_eq_true (show st≤m by omega)];rfl
section
variable (bk:List (List NAgent))(xs:List NAgent)(sch:List Int)(st:Int)
end
end Go.Proofs.YtjijpkphkicoeaaGreat
namespace Go.Proofs.YtjijpkphkicoeaaGreat
open Go Go.RowKit Go.Proofs Go.Tr
section
variable (bk:List (List NAgent))(xs:List NAgent)(sch:List Int)(st:Int)
theorem askQ:QCall Tryz.prog 47 [.rsl uNet bk,.rp uNet xs,.rsl (.int .i64) sch,.int .i64 st] (.int .i64 (askN (vldB bk xs) (schedB sch&&inB st 0 4000))):=by
 refine QCall.intro (nt:=25) ti_ok mixed (by kernel_rfl) Tryz.func47 rfl rfl rfl rfl rfl ?_;refine Or.inl (eI _ (aI (Sz bk) ?_));refine Or.inl (eI _ (aI (fun _=>Uw xs) ?_));refine aI (fun q=> ?_) (fun q=> ?_)
 ·have e:(1:Int)=askN (vldB bk xs) (schedB sch&&inB st 0 4000):=by rw[NQ bk xs q];rfl
  exact⟨e,rfl⟩
 have hv:=QA bk xs q;refine Or.inl (eI _ (aI (RN sch) ?_));refine Or.inl (eI _ (aI (fun _=>Dn st 0 4000) ?_));refine aI (fun q1=> ?_) (fun q1=> ?_)
 ·have q2:(bif !schedB sch then true else !inB st 0 4000)=true:=q1
  have e:(2:Int)=askN (vldB bk xs) (schedB sch&&inB st 0 4000):=by
   rw[hv];revert q2;cases schedB sch<;>cases inB st 0 4000<;>simp[askN]
  exact⟨e,rfl⟩
 ·have q2:(bif !schedB sch then true else !inB st 0 4000)=false:=q1
  have e:(0:Int)=askN (vldB bk xs) (schedB sch&&inB st 0 4000):=by
   rw[hv];revert q2;cases schedB sch<;>cases inB st 0 4000<;>simp[askN]
  exact⟨e,rfl⟩
theorem JV(ps:List (Int×Int))(k:Int)(h:decide (0<((sch.length:Nat):Int))=true):elt (dflt uPort) ps ((elt 0 sch (k.tmod ((sch.length:Nat):Int))).tmod ((ps.length:Nat):Int))=oK sch ps k:=by
 unfold oK Ib rU;rw[h];rfl
theorem JU(ps:List (Int×Int))(k:Int)(h:decide (0<((sch.length:Nat):Int))=false):elt (dflt uPort) ps 0=oK sch ps k:=by
 unfold oK Ib rU;rw[h,cond_false,Int.zero_tmod]
end
end Go.Proofs.YtjijpkphkicoeaaGreat
namespace Go.Proofs.YtjijpkphkicoeaaGreat
open Go Go.RowKit Go.Proofs Go.Tr
theorem Uy(sch:List Int)(ps:List (Int×Int))(k:Int)(hs:∀z∈sch,0≤z)(hk:0≤k)(hp:0<ps.length):FCall Tryz.prog 168 [.rsl (.int .i64) sch,.sl 10000,.int .i64 k] [.row 10000 71 2 uPort ps []] (vP (oK sch ps k)) [.row 10000 71 2 uPort ps []]:=FCall.of_q ti_ok [0,67,0] Qm (Uz sch ps k hs hk hp) rfl
section
variable (bk:List (List NAgent))(xs:List NAgent)(sch:List Int)(st:Int)
end
end Go.Proofs.YtjijpkphkicoeaaGreat
