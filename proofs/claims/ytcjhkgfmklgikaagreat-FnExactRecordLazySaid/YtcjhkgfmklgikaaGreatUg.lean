
/- The program's pairs of a net. -/
import Derived.Test.YtcjhkgfmklgikaaGreatShort
import Derived.Test.YtcjhkgfmklgikaaGreatIp
import Derived.Test.YtcjhkgfmklgikaaGreatVV
import Derived.Test.YtcjhkgfmklgikaaGreatYd
import Derived.Test.YtcjhkgfmklgikaaGreatRn
import Derived.Test.YtcjhkgfmklgikaaGreatRa
set_option maxRecDepth 100000
set_option linter.unusedSimpArgs false
set_option linter.unusedVariables false
namespace Go.Proofs.YtcjhkgfmklgikaaGreat
open Go Go.RowKit Go.Proofs Go.Tr
theorem ltU{k n:Nat}(h:decide (((k:Nat):Int)<((n:Nat):Int))=true):k<n:=by simp only[qQ]at h;omega
theorem geU{k n:Nat}(h:decide (((k:Nat):Int)<((n:Nat):Int))=false):n≤k:=by simp only[qP]at h;omega
section
variable (xs:List aj)(us:List Value)(bk:List (List aj))(kv:List (Int×Bool))(ev:List aT)
end
end Go.Proofs.YtcjhkgfmklgikaaGreat
namespace Go.Proofs.YtcjhkgfmklgikaaGreat
open Go Go.RowKit Go.Proofs Go.Tr
inductive YF(bk:List (List aj))(kv:List (Int×Bool))(xs ys:List aj)(ev:List aT)(a b:Int):Prop
 |bad (code:Int) (hc:code≠0)
  (hI:∀us,aA Tryz.prog 49 [.ptr 10000 0,vP (a,b)] (tR xs us bk kv ev) (.int .i64 code) (tR xs us bk kv ev))
  (hS:∀us,aA Tryz.prog 45 [.rsl bO bk,.ptr 10000 0,.int .i64 a,.int .i64 b] (tA ys us) (.tup [OP (0,0,0,0,0),.int .i64 code]) (tA ys us))
 |full (code:Int) (hc:code≠0) (x' y':List aj) (kv':List (Int×Bool)) (ev':List aT)
  (hI:∀us,aA Tryz.prog 49 [.ptr 10000 0,vP (a,b)] (tR xs us bk kv ev) (.int .i64 code) (Un 10005 10006 x' us bk kv' ev'))
  (hS:∀us,aA Tryz.prog 45 [.rsl bO bk,.ptr 10000 0,.int .i64 a,.int .i64 b] (tA ys us) (.tup [OP (0,0,0,0,0),.int .i64 code]) (J3 10002 y' []))
 |next (x' y':List aj) (kv':List (Int×Bool)) (e:aT)
  (hI:∀us,aA Tryz.prog 49 [.ptr 10000 0,vP (a,b)] (tR xs us bk kv ev) (.int .i64 0) (Un 10005 10006 x' us bk kv' (ev++[e])))
  (hS:∀us,aA Tryz.prog 45 [.rsl bO bk,.ptr 10000 0,.int .i64 a,.int .i64 b] (tA ys us) (.tup [OP e,.int .i64 0]) (J3 10002 y' []))
  (tw:Tr.Twin kv' x' y') (l1:x'.length≤3000) (wl:yI (fun _=>False) xs→yI (fun _=>False) x')
theorem Rz{bk:List (List aj)}{kv:List (Int×Bool)}{xs ys:List aj}{ev:List aT}(T:Tr.Twin kv xs ys)(hb:Kg bk)(hl:xs.length≤3000)(he:ev.length≤1000){a b:Int}(kp:lG (Gone kv) xs a b)(ra:(ah xs a).1≠1)(rb:(ah xs b).1≠1):YF bk kv xs ys ev a b:=by
 have hlen:=T.len;have ia:0≤a∧a<(xs.length:Nat):=⟨kp.px.1,kp.px.2.1⟩;have ib:0≤b∧b<(xs.length:Nat):=⟨kp.py.1,kp.py.2.1⟩;have iay:0≤a∧a<(ys.length:Nat):=by rw[←hlen];exact ia
 have iby:0≤b∧b<(ys.length:Nat):=by rw[←hlen];exact ib
 cases KM T kp ra rb hb (by omega)with
 |bad code hc hI hA=>
  exact .bad code hc (fun us=>OE xs us bk kv ev (a,b) hc (K6 xs us bk kv ev (a,b) ia ib hc (hI us))) fun us=>Xt bk ys us a b iay iby hc (hA us)
 |ok x' y' kv' hI hA tw l0 l1 sg cl wl=>
  have hlen':=tw.len
  have hcl:(bJ (ah xs a) (ah xs b)).1=bF (ah ys a) (ah ys b):=by
   rw[T.at_ ia.1 ia.2 kp.lx,T.at_ ib.1 ib.2 kp.ly,(Ce (T.wf a ia.1 ia.2 kp.lx) (T.wf b ib.1 ib.2 kp.ly) ra rb).1,oV]
  have hR:=fun us=>RB xs us bk kv ev (a,b) (Oz xs us bk kv ev (a,b) ia ib (by omega) l0 he (hI us))
  have hE:=fun us=>Vv bk ys us a b iay iby (by omega) (by omega) (hA us)
  rw[←hcl,←hlen,←hlen']at hE
  by_cases h4:(3000:Int)<(x'.length:Int)
  ·rw[show decide ((3000:Int)<(x'.length:Int))=true by simpa using h4]at hR hE;simp only[qG]at hR hE;exact .full 4 (by decide) _ _ _ _ hR hE
  ·rw[show decide ((3000:Int)<(x'.length:Int))=false by simpa using h4]at hR hE;simp only[qH]at hR hE;exact .next _ _ _ _ hR hE tw (by omega) wl
inductive Sw(bk:List (List aj))(sch:List Int)(st:Int):List (Int×Bool)→List aj→List aj→List aT→Int→List aT→Prop
 |stop {kv:List (Int×Bool)} {xs ys:List aj} {ev:List aT} (T:Tr.Twin kv xs ys) (w:yI (fun _=>False) xs) (hl:xs.length≤3000) (h:kH ys=[]∨st≤(ev.length:Nat)):Sw bk sch st kv xs ys ev 0 ev
 |bad {kv:List (Int×Bool)} {xs ys:List aj} {ev:List aT} (T:Tr.Twin kv xs ys) (w:yI (fun _=>False) xs) (hl:xs.length≤3000) (hp:0<(kH ys).length) (hs:((ev.length:Nat):Int)<st) (code:Int) (hc:code≠0)
  (hI:∀us,aA Tryz.prog 49 [.ptr 10000 0,vP (HV sch (kH ys) (ev.length:Nat))] (tR xs us bk kv ev) (.int .i64 code) (tR xs us bk kv ev))
  (hS:∀us,aA Tryz.prog 45 [.rsl bO bk,.ptr 10000 0,.int .i64 (HV sch (kH ys) (ev.length:Nat)).1,.int .i64 (HV sch (kH ys) (ev.length:Nat)).2] (tA ys us) (.tup [OP (0,0,0,0,0),.int .i64 code]) (tA ys us)):Sw bk sch st kv xs ys ev code []
 |full {kv:List (Int×Bool)} {xs ys:List aj} {ev:List aT} (T:Tr.Twin kv xs ys) (w:yI (fun _=>False) xs) (hl:xs.length≤3000) (hp:0<(kH ys).length) (hs:((ev.length:Nat):Int)<st) (code:Int) (hc:code≠0) (x' y':List aj) (kv':List (Int×Bool)) (ev':List aT)
  (hI:∀us,aA Tryz.prog 49 [.ptr 10000 0,vP (HV sch (kH ys) (ev.length:Nat))] (tR xs us bk kv ev) (.int .i64 code) (Un 10005 10006 x' us bk kv' ev'))
  (hS:∀us,aA Tryz.prog 45 [.rsl bO bk,.ptr 10000 0,.int .i64 (HV sch (kH ys) (ev.length:Nat)).1,.int .i64 (HV sch (kH ys) (ev.length:Nat)).2] (tA ys us) (.tup [OP (0,0,0,0,0),.int .i64 code]) (J3 10002 y' [])):Sw bk sch st kv xs ys ev code []
 |next {kv:List (Int×Bool)} {xs ys:List aj} {ev:List aT} (T:Tr.Twin kv xs ys) (w:yI (fun _=>False) xs) (hl:xs.length≤3000) (hp:0<(kH ys).length) (hs:((ev.length:Nat):Int)<st) (x' y':List aj) (kv':List (Int×Bool)) (e:aT) {code:Int} {out:List aT}
  (hI:∀us,aA Tryz.prog 49 [.ptr 10000 0,vP (HV sch (kH ys) (ev.length:Nat))] (tR xs us bk kv ev) (.int .i64 0) (Un 10005 10006 x' us bk kv' (ev++[e])))
  (hS:∀us,aA Tryz.prog 45 [.rsl bO bk,.ptr 10000 0,.int .i64 (HV sch (kH ys) (ev.length:Nat)).1,.int .i64 (HV sch (kH ys) (ev.length:Nat)).2] (tA ys us) (.tup [OP e,.int .i64 0]) (J3 10002 y' [])) (r:Sw bk sch st kv' x' y' (ev++[e]) code out):Sw bk sch st kv xs ys ev code out
theorem Sw.tw{bk:List (List aj)}{sch:List Int}{st:Int}{kv:List (Int×Bool)}{xs ys:List aj}{ev:List aT}{c:Int}{out:List aT}(h:Sw bk sch st kv xs ys ev c out):Tr.Twin kv xs ys∧xs.length≤3000:=by
 cases h with
 |stop T _ hl=>exact⟨T,hl⟩
 |bad T _ hl=>exact⟨T,hl⟩
 |full T _ hl=>exact⟨T,hl⟩
 |next T _ hl=>exact⟨T,hl⟩
theorem Sw.wl{bk:List (List aj)}{sch:List Int}{st:Int}{kv:List (Int×Bool)}{xs ys:List aj}{ev:List aT}{c:Int}{out:List aT}(h:Sw bk sch st kv xs ys ev c out):yI (fun _=>False) xs:=by
 cases h with
 |stop _ w=>exact w
 |bad _ w=>exact w
 |full _ w=>exact w
 |next _ w=>exact w
theorem UQ:bK Tryz.prog 89=true:=by kernel_rfl
theorem YL(m n:Int):aA Tryz.prog 138 [.int .i64 n,.ptr 10000 0] [.dD 10000 2 [.int .i64 m]] (.bool (Bu m n)) [.dD 10000 2 [.int .i64 m]]:=by
 refine aA.intro (nt:=11) aJ mixed (by kernel_rfl) Tryz.func138 rfl rfl rfl rfl rfl rfl ?_;refine fin [] (aI rfl ?_);exact⟨trivial,⟨⟨rfl,rfl⟩,trivial⟩,trivial⟩
theorem Zo(m:Int)(xs:List Int)(hl:xs.length≤1000000):aA Tryz.prog 153 [.rsl (.int .i64) xs,.fn 138 [.ptr 10000 0]] [.dD 10000 2 [.int .i64 m]] (.int .i64 (zh (Bu m) xs 0)) [.dD 10000 2 [.int .i64 m]]:=by
 refine aA.intro (nt:=19) aJ mixed (by kernel_rfl) Tryz.func153 rfl rfl rfl rfl rfl rfl ?_;refine lp Nat (fun i=>[(8,.int .i64 (i:Nat))]) (fun _=>[.dD 10000 2 [.int .i64 m]]) (fun i=>xs.length-i) (fun i=>i≤xs.length∧zh (Bu m) xs 0=zh (Bu m) (xs.drop i) i) 0 ⟨Nat.zero_le _,rfl⟩ ?_ ?_
 ·exact hd [] rfl (aI (aI rfl rfl) trivial) ⟨trivial,⟨⟨rfl,rfl⟩,trivial⟩,trivial⟩
 rintro i ⟨hi,he⟩;refine aI (fun q1=> ?_) (fun q1=> ?_)
 ·have hlt:i<xs.length:=ltU q1;refine aI (show 0≤((i:Nat):Int)∧((i:Nat):Int)<(xs.length:Nat) by omega) ?_;refine Or.inr (eI _ (eI _ (aI (YL m (xs.getD i 0)) ?_)));rw[Vu 0 hlt]at he;refine aI (fun q2=> ?_) (fun q2=> ?_)
  ·rw[he,show zh (Bu m) (xs.getD i 0::xs.drop (i+1)) i=i by unfold zh;rw[show Bu m (xs.getD i 0)=true from q2];rfl];exact fin [] (aI ⟨rfl,rfl⟩ ⟨trivial,⟨⟨rfl,rfl⟩,trivial⟩,trivial⟩)
  ·refine bB (i+1) ⟨hlt,?_⟩ ?_ ?_
   ·rw[he]
    conv=>lhs;unfold zh
    rw[show Bu m (xs.getD i 0)=false from q2];rfl
   ·exact hd [] rfl (aI (aI (eB (by omega)) rfl) trivial) ⟨trivial,⟨⟨rfl,rfl⟩,trivial⟩,trivial⟩
   ·show xs.length-(i+1)<xs.length-i;omega
 ·have hge:xs.length≤i:=geU q1;have hie:i=xs.length:=by omega
  subst hie;rw[he,List.drop_length];exact fin [] (aI ⟨rfl,rfl⟩ ⟨trivial,⟨⟨rfl,rfl⟩,trivial⟩,trivial⟩)
theorem Zb(m:Int)(xs:List Int)(hl:xs.length≤1000000):aA Tryz.prog 123 [.rsl (.int .i64) xs,.fn 138 [.ptr 10000 0]] [.dD 10000 2 [.int .i64 m]] (.bool (xs.any (Bu m))) [.dD 10000 2 [.int .i64 m]]:=by
 refine aA.intro (nt:=9) aJ mixed (by kernel_rfl) Tryz.func123 rfl rfl rfl rfl rfl rfl ?_;refine Or.inr (eI _ (eI _ (aI (Zo m xs hl) ?_)));rw[←Jd (Bu m) xs 0 (by omega)];exact fin [] (aI rfl ⟨trivial,⟨⟨rfl,rfl⟩,trivial⟩,trivial⟩)
theorem YM(m:Int)(xs:List Int)(hl:xs.length≤1000000):aN Tryz.prog 89 [.int .i64 m,.rsl (.int .i64) xs] (.bool (!(xs.any (Bu m)))):=by
 refine aN.intro (nt:=9) aJ mixed UQ Tryz.func89 rfl rfl rfl rfl rfl ?_;refine Or.inr (eI _ (eI _ (aI (Zb m xs hl) ?_)));exact rfl
def nT(a b:Bool):Int:=bif a then(bif b then 0 else 2)else 1
noncomputable def lF(bk:List (List aj))(xs:List aj):Bool:=lH (bk.map gN)&&iG (gN xs)
theorem R8(bk:List (List aj))(xs:List aj)(h:(bif !lH (bk.map gN)then true else !iG (gN xs))=true):lF bk xs=false:=by
 unfold lF;revert h;cases lH (bk.map gN)<;>cases iG (gN xs)<;>simp
theorem Vb(bk:List (List aj))(xs:List aj)(h:(bif !lH (bk.map gN)then true else !iG (gN xs))=false):lF bk xs=true:=by
 unfold lF;revert h;cases lH (bk.map gN)<;>cases iG (gN xs)<;>simp
theorem Vm(m st:Int):(!([st].any (Bu m)))=dS st 0 m:=by
 unfold dS Bu;simp only[List.any_cons,List.any_nil,Bool.or_false]
 by_cases h1:st<0
 ·rw[decide_eq_true h1,decide_eq_false (show ¬0≤st by omega)];rfl
 ·rw[decide_eq_false h1,decide_eq_true (show 0≤st by omega),qH,Bool.true_and]
  by_cases h2:m<st
  ·rw[decide_eq_true h2,decide_eq_false (show ¬st≤m by omega)];rfl
  ·rw[decide_eq_false h2,decide_eq_true (show st≤m by omega)];rfl
theorem Q6:bK Tryz.prog 46=true:=by kernel_rfl
theorem WV(m st:Int):aA Tryz.prog 89 [.int .i64 m,.sl 10000] [.row 10000 2 1 (.int .i64) [st] []] (.bool (dS st 0 m)) [.row 10000 2 1 (.int .i64) [st] []]:=by
 rw[←Vm];exact aA.o9 aJ [0,31] UQ (YM m [st] (by simp)) rfl
section
variable (bk:List (List aj))(xs:List aj)(sch:List Int)(st:Int)
theorem Uj{c:Int}(h:nT (lF bk xs) (dM sch&&dS st 0 300)=c)(hc:c≠0):aA Tryz.prog 46 [.rsl bO bk,.agg [.rsl aG xs],.rsl (.int .i64) sch,.int .i64 st] [] (.tup [.raw (.pointer none),.int .i64 c]) []:=by
 refine aA.intro (nt:=32) aJ mixed Q6 Tryz.func46 rfl rfl rfl rfl rfl rfl ?_;refine Or.inl (eI _ (aI (U6 bk) ?_));refine Or.inl (eI _ (aI (fun _=>XC xs) ?_));refine aI (fun q=> ?_) (fun q=> ?_)
 ·have e:c=1:=by rw[←h,R8 bk xs q];rfl
  subst e;exact fin [] (aI rfl trivial)
 have hv:=Vb bk xs q;have hS:=RL sch;cases hs:dM sch with
 |false=>
  rw[hs]at hS;refine Or.inl (eI _ (aI hS ?_));refine aI (fun g=>by cases g) (fun _=> ?_);refine Or.inr (aI (fun g=>by cases g) (fun _=>eI (.bool false) ?_));refine aI (fun q2=> ?_) (fun q2=>by cases q2);have e:c=2:=by rw[←h,hv,hs];rfl
  subst e;exact fin [] (aI rfl trivial)
 |true=>
  rw[hs]at hS;have hA:=WV 300 st;cases hi:dS st 0 300 with
  |true=>rw[hv,hs,hi]at h;exact absurd h.symm hc
  |false=>
  rw[hi]at hA;refine Or.inl (eI _ (aI hS ?_));refine aI (fun _=> ?_) (fun g=>by cases g);refine Or.inr (aI (fun _=>eI _ (eI _ (aI hA ?_))) (fun g=>by cases g));refine aI (fun q2=> ?_) (fun q2=>by cases q2);have e:c=2:=by rw[←h,hv,hs,hi];rfl
  subst e;exact fin [] (aI rfl trivial)
theorem RA(hs:dH xs)(h:nT (lF bk xs) (dM sch&&dS st 0 300)=0):aA Tryz.prog 46 [.rsl bO bk,.agg [.rsl aG xs],.rsl (.int .i64) sch,.int .i64 st] [] (.tup [.ptr 10000 0,.int .i64 0]) [.dD 10000 97 [.ptr 10001 0,.raw (.slice none 0 0)],.dD 10001 78 [.sl 10002,.rsl bO bk,.mp 10003],.row 10002 111 5 aG xs [],.map 10003 .bool []]:=by
 have hh:lF bk xs=true∧dM sch=true∧dS st 0 300=true:=by
  revert h;cases lF bk xs<;>cases dM sch<;>cases dS st 0 300<;>simp[nT]
 obtain⟨hv,hsc,hi⟩:=hh;refine aA.intro (nt:=32) aJ mixed Q6 Tryz.func46 rfl rfl rfl rfl rfl rfl ?_;refine Or.inl (eI _ (aI (U6 bk) ?_));refine Or.inl (eI _ (aI (fun _=>XC xs) ?_));refine aI (fun q=> ?_) (fun q=> ?_)
 ·have e:=R8 bk xs q;rw[hv]at e;cases e
 have hS:=RL sch;have hA:=WV 300 st;rw[hsc]at hS;rw[hi]at hA;refine Or.inl (eI _ (aI hS ?_));refine aI (fun _=> ?_) (fun g=>by cases g);refine Or.inr (aI (fun _=>eI _ (eI _ (aI hA ?_))) (fun g=>by cases g));refine aI (fun q2=>by cases q2) (fun _=> ?_);refine Or.inr (eI _ (eI _ (aI (TL xs bk hs) ?_)));refine fin [(10000,31),(10001,1000031),(10002,2000031),(10003,3000031)] (aI rfl ?_);exact⟨trivial,⟨rfl,rfl,trivial⟩,trivial,⟨rfl,rfl,rfl,trivial⟩,⟨rfl,nP⟩,rfl,trivial⟩
end
end Go.Proofs.YtcjhkgfmklgikaaGreat
namespace Go.Proofs.YtcjhkgfmklgikaaGreat
open Go Go.RowKit Go.Proofs Go.Tr
theorem Q7:bK Tryz.prog 42=true:=by kernel_rfl
section
variable (bk:List (List aj))(xs:List aj)(sch:List Int)(st:Int)
theorem YJ:aN Tryz.prog 25 [.rsl bO bk,.rp bO xs,.rsl (.int .i64) sch,.int .i64 st] (.int .i64 (nT (lF bk xs) (dM sch&&dS st 0 4000))):=by
 refine aN.intro (nt:=25) aJ mixed (by kernel_rfl) Tryz.func25 rfl rfl rfl rfl rfl ?_;refine Or.inl (eI _ (aI (Xi bk) ?_));refine Or.inl (eI _ (aI (fun _=>Zv xs) ?_));refine aI (fun q=> ?_) (fun q=> ?_)
 ·have e:(1:Int)=nT (lF bk xs) (dM sch&&dS st 0 4000):=by rw[R8 bk xs q];rfl
  exact⟨e,rfl⟩
 have hv:=Vb bk xs q;refine Or.inl (eI _ (aI (Wo sch) ?_));refine Or.inl (eI _ (aI (fun _=>Fg st 0 4000) ?_));refine aI (fun q1=> ?_) (fun q1=> ?_)
 ·have q2:(bif !dM sch then true else !dS st 0 4000)=true:=q1
  have e:(2:Int)=nT (lF bk xs) (dM sch&&dS st 0 4000):=by
   rw[hv];revert q2;cases dM sch<;>cases dS st 0 4000<;>simp[nT]
  exact⟨e,rfl⟩
 ·have q2:(bif !dM sch then true else !dS st 0 4000)=false:=q1
  have e:(0:Int)=nT (lF bk xs) (dM sch&&dS st 0 4000):=by
   rw[hv];revert q2;cases dM sch<;>cases dS st 0 4000<;>simp[nT]
  exact⟨e,rfl⟩
theorem Wq:aN Tryz.prog 42 [.rsl bO bk,.rp bO xs,.rsl (.int .i64) sch,.int .i64 st] (.int .i64 (nT (lF bk xs) (dM sch&&dS st 0 300))):=by
 refine aN.intro (nt:=22) aJ mixed Q7 Tryz.func42 rfl rfl rfl rfl rfl ?_;refine Or.inl (eI _ (aI (YJ bk xs sch 0) ?_));refine Or.inl (eI _ (aI (fun _=>Fg st 0 300) ?_));have h0:dS 0 0 4000=true:=rfl;refine aI (fun q1=> ?_) (fun q1=> ?_)
 ·have q2:(bif nT (lF bk xs) (dM sch&&dS 0 0 4000)==0 then !dS st 0 300 else false)=true:=q1
  have e:(2:Int)=nT (lF bk xs) (dM sch&&dS st 0 300):=by
   rw[h0]at q2;revert q2;cases lF bk xs<;>cases dM sch<;>cases dS st 0 300<;>simp[nT]
  exact⟨e,rfl⟩
 ·have q2:(bif nT (lF bk xs) (dM sch&&dS 0 0 4000)==0 then !dS st 0 300 else false)=false:=q1
  have e:nT (lF bk xs) (dM sch&&dS 0 0 4000)=nT (lF bk xs) (dM sch&&dS st 0 300):=by
   rw[h0]at q2 ⊢;revert q2;cases lF bk xs<;>cases dM sch<;>cases dS st 0 300<;>simp[nT]
  exact⟨e,rfl⟩
theorem Lr:aA Tryz.prog 42 [.rsl bO bk,.ptr 10000 0,.rsl (.int .i64) sch,.int .i64 st] [.dD 10000 30 [.rsl aG xs]] (.int .i64 (nT (lF bk xs) (dM sch&&dS st 0 300))) [.dD 10000 30 [.rsl aG xs]]:=aA.o9 aJ [0,51,0,0] Q7 (Wq bk xs sch st) rfl
theorem Nf(hs:dH xs):aA Tryz.prog 43 [.ptr 10000 0] [.dD 10000 30 [.rsl aG xs]] (.agg [.sl 10001]) [.row 10001 111 5 aG xs [],.dD 10000 30 [.rsl aG xs]]:=
 aA.Ey (ts2:=[.row 10001 111 5 aG xs []]) aJ [51] JA (TV xs hs) rfl rfl rfl
abbrev NH:=List (Int×Bool)×List aj×List aj×List aT
end
end Go.Proofs.YtcjhkgfmklgikaaGreat
namespace Go.Proofs.YtcjhkgfmklgikaaGreat
open Go Go.RowKit Go.Proofs Go.Tr
def ZY(bk:List (List aj))(s:NH):List Tok:=[.dD 20 97 [.ptr 1000020 0,.sl 20001],.dD 1000020 78 [.sl 20000,.rsl bO bk,.mp 3000020],.row 20000 111 5 aG s.2.1 [],.map 3000020 .bool s.1,.row 20001 88 5 rH s.2.2.2 []]
section
variable (bk:List (List aj))(xs:List aj)(sch:List Int)(st:Int)
end
end Go.Proofs.YtcjhkgfmklgikaaGreat
