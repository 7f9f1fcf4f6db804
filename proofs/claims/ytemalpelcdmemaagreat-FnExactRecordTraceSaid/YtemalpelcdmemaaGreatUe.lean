
/- The reference's active pairs; one interaction recorded by both sides. -/
import Derived.Test.YtemalpelcdmemaaGreatShort
import Derived.Test.YtemalpelcdmemaaGreatUp
import Derived.Test.YtemalpelcdmemaaGreatUc
import Derived.Test.YtemalpelcdmemaaGreatRd
set_option linter.unusedSimpArgs false
set_option linter.unusedVariables false
namespace Go.Proofs.YtemalpelcdmemaaGreat
open Go Go.RowKit Go.Proofs Go.Tr
theorem YH:callOk Tryz.prog 72=true:=by kernel_rfl
set_option maxRecDepth 100000 in
theorem ZbW(ys:List NAgent)(hl:ys.length≤1000000)(h0:0<ys.length)(hp:∀i:Nat,i<ys.length→liveY ys i=true→0<(agAt ys (i:Nat)).2.2.2.2.length):FCall Tryz.prog 72 [.rp uNet ys] [] (.sl 10000) [.row 10000 96 2 uPort (prsN ys) []]:=by
 refine FCall.intro (nt:=52) ti_ok mixed YH Tryz.func72 rfl rfl rfl rfl rfl rfl ?_;refine lp Nat (fun i=>[(4,.int .i64 (i:Nat)),(3,.sl 20000)]) (fun i=>[.row 20000 96 2 uPort (prTo (prR ys) ys i) []]) (fun i=>ys.length-i) (fun i=>1≤i∧i≤ys.length) 1 ⟨Nat.le_refl 1,h0⟩ ?_ ?_
 ·exact hd [(20000,6)] rfl (aI (aI rfl rfl) (aI rfl trivial)) ⟨⟨(show([]:List (Int×Int))=prTo (prR ys) ys 1 from(prTo_f (c:=prR ys) (xs:=ys) (k:=0) rfl).symm),List.nil_prefix⟩,trivial⟩
 rintro i ⟨h1,hi⟩;have h1':1≤i:=h1;refine aI (fun q1=> ?_) (fun q1=> ?_)
 ·have hlt:i<ys.length:=ltU q1;have hk:0≤((i:Nat):Int)∧((i:Nat):Int)<(ys.length:Nat):=by omega
  refine aI hk ?_;refine aI (fun q2=> ?_) (fun q2=> ?_)
  ·have hv:liveY ys i=false:=Zah q2;have hr:prR ys i=false:=by unfold prR;rw[hv];cases decide (1≤i)<;>rfl
   refine lp_next (i+1) ⟨by omega,hlt⟩ ?_ ?_
   ·exact hd [] rfl (aI (aI (wrapS (by omega)) rfl) (aI rfl trivial)) ⟨⟨(prTo_f hr).symm,List.nil_prefix⟩,trivial⟩
   ·show ys.length-(i+1)<ys.length-i;omega
  ·have hv:liveY ys i=true:=Zai q2;have hp1:=hp i hlt hv;have he:prR ys i=prD ys i:=by unfold prR;rw[hv,decide_eq_true h1'];rfl
   refine aI hk ?_;refine aI (show(0:Int)≤0∧(0:Int)<((agAt ys (i:Nat)).2.2.2.2.length:Nat) by omega) ?_;refine aI (fun q3=> ?_) (fun q3=> ?_)
   ·have hr:prR ys i=true:=by rw[he];exact q3
    refine aI (show(prTo (prR ys) ys i).length+1≤1073741824 by have:=JD (prR ys) ys i;omega) ?_;refine lp_next (i+1) ⟨by omega,hlt⟩ ?_ ?_
    ·refine hd [(20000,50)] rfl (aI (aI (wrapS (by omega)) rfl) (aI rfl trivial)) ⟨⟨?_,List.nil_prefix⟩,trivial⟩;show prTo (prR ys) ys i++[prA ys i]=prTo (prR ys) ys (i+1);exact(prTo_t hr).symm
    ·show ys.length-(i+1)<ys.length-i;omega
   ·have hr:prR ys i=false:=by rw[he];exact q3
    refine lp_next (i+1) ⟨by omega,hlt⟩ ?_ ?_
    ·exact hd [] rfl (aI (aI (wrapS (by omega)) rfl) (aI rfl trivial)) ⟨⟨(prTo_f hr).symm,List.nil_prefix⟩,trivial⟩
    ·show ys.length-(i+1)<ys.length-i;omega
 ·have hge:ys.length≤i:=geU q1;have hi':i≤ys.length:=hi;obtain rfl:i=ys.length:=by omega
  refine fin [(10000,20000)] (aI rfl ?_);exact⟨⟨rfl,List.nil_prefix⟩,trivial⟩
theorem YO(ys:List NAgent)(us:List Value)(hl:ys.length≤1000000)(h0:0<ys.length)(hp:∀i:Nat,i<ys.length→liveY ys i=true→0<(agAt ys (i:Nat)).2.2.2.2.length):
  FCall Tryz.prog 72 [.ptr 10000 0] (tA ys us) (.sl 10002) ([.row 10002 96 2 uPort (prsN ys) []]++tA ys us):=
 FCall.of_f (ts2:=[.row 10002 96 2 uPort (prsN ys) []]) ti_ok [71] YH (ZbW ys hl h0 hp) rfl rfl rfl
inductive RecB(bk:List (List NAgent))(kv:List (Int×Bool))(xs ys:List NAgent)(ev:List NEvent)(a b:Int):Prop
 |bad (code:Int) (hc:code≠0)
  (hI:∀us,FCall Tryz.prog 76 [.ptr 10000 0,vP (a,b)] (tR xs us bk kv ev) (.int .i64 code) (tR xs us bk kv ev))
  (hS:∀us,FCall Tryz.prog 73 [.rsl uNet bk,.ptr 10000 0,.int .i64 a,.int .i64 b] (tA ys us) (.tup [Rw (0,0,0,0,0),.int .i64 code]) (tA ys us))
 |full (code:Int) (hc:code≠0) (x' y':List NAgent) (kv':List (Int×Bool)) (ev':List NEvent)
  (hI:∀us,FCall Tryz.prog 76 [.ptr 10000 0,vP (a,b)] (tR xs us bk kv ev) (.int .i64 code) (tRn 10005 10006 x' us bk kv' ev'))
  (hS:∀us,FCall Tryz.prog 73 [.rsl uNet bk,.ptr 10000 0,.int .i64 a,.int .i64 b] (tA ys us) (.tup [Rw (0,0,0,0,0),.int .i64 code]) (Rl 10002 y' []))
 |next (x' y':List NAgent) (kv':List (Int×Bool)) (e:NEvent)
  (hI:∀us,FCall Tryz.prog 76 [.ptr 10000 0,vP (a,b)] (tR xs us bk kv ev) (.int .i64 0) (tRn 10005 10006 x' us bk kv' (ev++[e])))
  (hS:∀us,FCall Tryz.prog 73 [.rsl uNet bk,.ptr 10000 0,.int .i64 a,.int .i64 b] (tA ys us) (.tup [Rw e,.int .i64 0]) (Rl 10002 y' []))
  (tw:Tr.Twin kv' x' y') (l1:x'.length≤3000) (wl:K9 (fun _=>False) xs→K9 (fun _=>False) x')
theorem Y4{bk:List (List NAgent)}{kv:List (Int×Bool)}{xs ys:List NAgent}{ev:List NEvent}(T:Tr.Twin kv xs ys)(hb:Rx bk)(hl:xs.length≤3000)(he:ev.length≤1000){a b:Int}(kp:oI (Gone kv) xs a b)(ra:(agAt xs a).1≠1)(rb:(agAt xs b).1≠1):RecB bk kv xs ys ev a b:=by
 have hlen:=T.len;have ia:0≤a∧a<(xs.length:Nat):=⟨kp.px.1,kp.px.2.1⟩;have ib:0≤b∧b<(xs.length:Nat):=⟨kp.py.1,kp.py.2.1⟩;have iay:0≤a∧a<(ys.length:Nat):=by rw[←hlen];exact ia
 have iby:0≤b∧b<(ys.length:Nat):=by rw[←hlen];exact ib
 cases Sk T kp ra rb hb (by omega)with
 |bad code hc hI hA=>
  exact .bad code hc (fun us=>WS xs us bk kv ev (a,b) hc (TR xs us bk kv ev (a,b) ia ib hc (hI us))) fun us=>ZcL bk ys us a b iay iby hc (hA us)
 |ok x' y' kv' hI hA tw l0 l1 sg cl wl=>
  have hlen':=tw.len
  have hcl:(cO (agAt xs a) (agAt xs b)).1=bX (agAt ys a) (agAt ys b):=by
   rw[T.at_ ia.1 ia.2 kp.lx,T.at_ ib.1 ib.2 kp.ly,(Ic (T.wf a ia.1 ia.2 kp.lx) (T.wf b ib.1 ib.2 kp.ly) ra rb).1,uj]
  have hR:=fun us=>Y6 xs us bk kv ev (a,b) (WL xs us bk kv ev (a,b) ia ib (by omega) l0 he (hI us))
  have hE:=fun us=>ZbC bk ys us a b iay iby (by omega) (by omega) (hA us)
  rw[←hcl,←hlen,←hlen']at hE
  by_cases h4:(3000:Int)<(x'.length:Int)
  ·rw[show decide ((3000:Int)<(x'.length:Int))=true by simpa using h4]at hR hE;simp only[cond_true]at hR hE;exact .full 4 (by decide) _ _ _ _ hR hE
  ·rw[show decide ((3000:Int)<(x'.length:Int))=false by simpa using h4]at hR hE;simp only[cond_false]at hR hE;exact .next _ _ _ _ hR hE tw (by omega) wl
inductive Ku(bk:List (List NAgent))(sch:List Int)(st:Int):List (Int×Bool)→List NAgent→List NAgent→List NEvent→Int→List NEvent→Prop
 |stop {kv:List (Int×Bool)} {xs ys:List NAgent} {ev:List NEvent} (T:Tr.Twin kv xs ys) (w:K9 (fun _=>False) xs) (hl:xs.length≤3000) (h:prsN ys=[]∨st≤(ev.length:Nat)):Ku bk sch st kv xs ys ev 0 ev
 |bad {kv:List (Int×Bool)} {xs ys:List NAgent} {ev:List NEvent} (T:Tr.Twin kv xs ys) (w:K9 (fun _=>False) xs) (hl:xs.length≤3000) (hp:0<(prsN ys).length) (hs:((ev.length:Nat):Int)<st) (code:Int) (hc:code≠0)
  (hI:∀us,FCall Tryz.prog 76 [.ptr 10000 0,vP (yY sch (prsN ys) (ev.length:Nat))] (tR xs us bk kv ev) (.int .i64 code) (tR xs us bk kv ev))
  (hS:∀us,FCall Tryz.prog 73 [.rsl uNet bk,.ptr 10000 0,.int .i64 (yY sch (prsN ys) (ev.length:Nat)).1,.int .i64 (yY sch (prsN ys) (ev.length:Nat)).2] (tA ys us) (.tup [Rw (0,0,0,0,0),.int .i64 code]) (tA ys us)):Ku bk sch st kv xs ys ev code []
 |full {kv:List (Int×Bool)} {xs ys:List NAgent} {ev:List NEvent} (T:Tr.Twin kv xs ys) (w:K9 (fun _=>False) xs) (hl:xs.length≤3000) (hp:0<(prsN ys).length) (hs:((ev.length:Nat):Int)<st) (code:Int) (hc:code≠0) (x' y':List NAgent) (kv':List (Int×Bool)) (ev':List NEvent)
  (hI:∀us,FCall Tryz.prog 76 [.ptr 10000 0,vP (yY sch (prsN ys) (ev.length:Nat))] (tR xs us bk kv ev) (.int .i64 code) (tRn 10005 10006 x' us bk kv' ev'))
  (hS:∀us,FCall Tryz.prog 73 [.rsl uNet bk,.ptr 10000 0,.int .i64 (yY sch (prsN ys) (ev.length:Nat)).1,.int .i64 (yY sch (prsN ys) (ev.length:Nat)).2] (tA ys us) (.tup [Rw (0,0,0,0,0),.int .i64 code]) (Rl 10002 y' [])):Ku bk sch st kv xs ys ev code []
 |next {kv:List (Int×Bool)} {xs ys:List NAgent} {ev:List NEvent} (T:Tr.Twin kv xs ys) (w:K9 (fun _=>False) xs) (hl:xs.length≤3000) (hp:0<(prsN ys).length) (hs:((ev.length:Nat):Int)<st) (x' y':List NAgent) (kv':List (Int×Bool)) (e:NEvent) {code:Int} {out:List NEvent}
  (hI:∀us,FCall Tryz.prog 76 [.ptr 10000 0,vP (yY sch (prsN ys) (ev.length:Nat))] (tR xs us bk kv ev) (.int .i64 0) (tRn 10005 10006 x' us bk kv' (ev++[e])))
  (hS:∀us,FCall Tryz.prog 73 [.rsl uNet bk,.ptr 10000 0,.int .i64 (yY sch (prsN ys) (ev.length:Nat)).1,.int .i64 (yY sch (prsN ys) (ev.length:Nat)).2] (tA ys us) (.tup [Rw e,.int .i64 0]) (Rl 10002 y' [])) (r:Ku bk sch st kv' x' y' (ev++[e]) code out):Ku bk sch st kv xs ys ev code out
theorem Ku.tw{bk:List (List NAgent)}{sch:List Int}{st:Int}{kv:List (Int×Bool)}{xs ys:List NAgent}{ev:List NEvent}{c:Int}{out:List NEvent}(h:Ku bk sch st kv xs ys ev c out):Tr.Twin kv xs ys∧xs.length≤3000:=by
 cases h with
 |stop T _ hl=>exact⟨T,hl⟩
 |bad T _ hl=>exact⟨T,hl⟩
 |full T _ hl=>exact⟨T,hl⟩
 |next T _ hl=>exact⟨T,hl⟩
theorem Ku.wl{bk:List (List NAgent)}{sch:List Int}{st:Int}{kv:List (Int×Bool)}{xs ys:List NAgent}{ev:List NEvent}{c:Int}{out:List NEvent}(h:Ku bk sch st kv xs ys ev c out):K9 (fun _=>False) xs:=by
 cases h with
 |stop _ w=>exact w
 |bad _ w=>exact w
 |full _ w=>exact w
 |next _ w=>exact w
theorem VO{bk:List (List NAgent)}{sch:List Int}{st:Int}(hb:Rx bk)(hsch:∀z∈sch,0≤z)(h300:st≤300):∀(n:Nat) {kv:List (Int×Bool)} {xs ys:List NAgent} {ev:List NEvent},Tr.Twin kv xs ys→K9 (fun _=>False) xs→xs.length≤3000→st≤((ev.length+n:Nat):Int)→ev.length≤300→∃code out,Ku bk sch st kv xs ys ev code out∧out.length≤300
 |n,kv,xs,ys,ev,T,w,hl,hn,hev=>by
  by_cases hp:(prsN ys).length=0
  ·exact⟨0,ev,.stop T w hl (.inl (List.eq_nil_of_length_eq_zero hp)),hev⟩
  by_cases hs:st≤(ev.length:Nat)
  ·exact⟨0,ev,.stop T w hl (.inr hs),hev⟩
  have hp':0<(prsN ys).length:=by omega
  have hs':((ev.length:Nat):Int)<st:=by omega
  have hb2:=Hg hsch (n:=(((prsN ys).length:Nat):Int)) (by omega) ((ev.length:Nat):Int);obtain⟨kp,ra,rb,_⟩:=T.YV (prs_at hb2.1 hb2.2);cases Y4 (ev:=ev) T hb hl (by omega) kp ra rb with
  |bad code hc hI hS=>exact⟨code,[],.bad T w hl hp' hs' code hc hI hS,by simp⟩
  |full code hc x' y' kv' ev' hI hS=>exact⟨code,[],.full T w hl hp' hs' code hc x' y' kv' ev' hI hS,by simp⟩
  |next x' y' kv' e hI hS tw l1 wl=>
   match n with
   |0=>omega
   |n+1=>
    obtain⟨code,out,r,h⟩:=VO hb hsch h300 n (ev:=ev++[e]) tw (wl w) l1 (by rw[List.length_append,List.length_singleton];omega) (by rw[List.length_append,List.length_singleton];omega);exact⟨code,out,.next T w hl hp' hs' x' y' kv' e hI hS r,h⟩
end Go.Proofs.YtemalpelcdmemaaGreat
