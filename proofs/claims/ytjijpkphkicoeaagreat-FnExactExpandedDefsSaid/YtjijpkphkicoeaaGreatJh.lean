
/- The reference's nets: wires, new agents, holes. -/
import Derived.Test.YtjijpkphkicoeaaGreatShort
import Derived.Test.YtjijpkphkicoeaaGreatProg
import Derived.Test.YtjijpkphkicoeaaGreatVti
import Derived.Test.YtjijpkphkicoeaaGreatNz
import Derived.Test.YtjijpkphkicoeaaGreatIo
import Derived.Test.YtjijpkphkicoeaaGreatVV
set_option maxHeartbeats 4000000
set_option maxRecDepth 100000
set_option linter.unusedSimpArgs false
set_option linter.unusedVariables false
set_option linter.unusedSectionVars false
namespace Go.Proofs.YtjijpkphkicoeaaGreat
open Go Go.RowKit Go.Proofs Go.Tr
theorem BX:bH Tryz.prog 178=true:=by kernel_rfl
theorem Ir:bH Tryz.prog 124=true:=by kernel_rfl
theorem NT:bH Tryz.prog 141=true:=by kernel_rfl
theorem NS:bH Tryz.prog 138=true:=by kernel_rfl
theorem F8:bH Tryz.prog 145=true:=by kernel_rfl
theorem Ip:bH Tryz.prog 140=true:=by kernel_rfl
theorem bN(a b:Int):aO Tryz.prog 125 [.int .i64 a,.int .i64 b] (.agg [.int .i64 a,.int .i64 b]):=by
 refine aO.intro (nt:=8) aH mixed (by kernel_rfl) Tryz.func125 rfl rfl rfl rfl rfl ?_;exact rfl
theorem Bq(xs:List aj)(p:aF)(hp:ak xs p):aO Tryz.prog 124 [.rp aR xs,vP p] (vP (au xs p)):=by
 obtain⟨p1,p2,p3,p4⟩:=hp;refine aO.intro (nt:=18) aH mixed Ir Tryz.func124 rfl rfl rfl rfl rfl ?_;refine aI ⟨p1,p2⟩ ?_;refine aI ⟨p3,p4⟩ ?_;refine aI (by kernel_rfl) ?_;exact rfl
theorem RY:bH Tryz.prog 135=true:=by kernel_rfl
theorem Xx(xs:List Int)(hx:xs.length≤1048576):aA Tryz.prog 135 [.rsl (.int .i64) xs] [] (.sl 10000) [.row 10000 2 1 (.int .i64) xs []]:=by
 refine aA.intro (nt:=6) aH mixed RY Tryz.func135 rfl rfl rfl rfl rfl rfl ?_;refine aI (by show 0+xs.length≤_;omega) ?_;refine fin [(10000,5)] (aI rfl ?_);exact⟨⟨rfl,nP⟩,trivial⟩
theorem N9:aA Tryz.prog 135 [.raw (.slice none 0 0)] [] (.sl 10000) [.row 10000 2 1 (.int .i64) [] []]:=aA.of_nil (Xx [] (by simp))
theorem Oa(ds:List Int)(hd:ds.length≤1048576):aA Tryz.prog 135 [.sl 10000] [.row 10000 2 1 (.int .i64) ds []] (.sl 10001) [.row 10001 2 1 (.int .i64) ds [],.row 10000 2 1 (.int .i64) ds []]:=
 aA.yC (ts2:=[.row 10001 2 1 (.int .i64) ds []]) aH [0] RY (Xx ds hd) rfl rfl rfl
theorem Kl:bH Tryz.prog 88=true:=by kernel_rfl
theorem IB(x:aj)(h1:x.2.2.2.1.length≤1048576)(h2:x.2.2.2.2.length≤1048576):aA Tryz.prog 88 [.rp aD x] [] (.agg [.int .i64 x.1,.int .i64 x.2.1,.int .i64 x.2.2.1,.sl 10000,.sl 10001]) [.row 10000 2 1 (.int .i64) x.2.2.2.1 [],.row 10001 102 2 aM x.2.2.2.2 []]:=by
 refine aA.intro (nt:=27) aH mixed Kl Tryz.func88 rfl rfl rfl rfl rfl rfl ?_;refine Or.inr (eI _ (eI _ (aI (Xx _ h1) ?_)));refine aI (by show 0+x.2.2.2.2.length≤_;omega) ?_;refine aI (by kernel_rfl) ?_;refine fin [(10000,19),(10001,25)] (aI rfl ?_);exact⟨⟨rfl,nP⟩,⟨rfl,nP⟩,trivial⟩
theorem yE(xs:List aj)(us:List Value)(i:Int)(h1:(ah xs i).2.2.2.1.length≤1048576)(h2:(ah xs i).2.2.2.2.length≤1048576):aA Tryz.prog 88 [.ep 10000 5 i 0] [.row 10000 131 5 aD xs us] (.agg [.int .i64 (ah xs i).1,.int .i64 (ah xs i).2.1,.int .i64 (ah xs i).2.2.1,.sl 10001,.sl 10002]) [.row 10001 2 1 (.int .i64) (ah xs i).2.2.2.1 [],.row 10002 102 2 aM (ah xs i).2.2.2.2 [],.row 10000 131 5 aD xs us]:=
 aA.yC (ts2:=[.row 10001 2 1 (.int .i64) (ah xs i).2.2.2.1 [],.row 10002 102 2 aM (ah xs i).2.2.2.2 []]) aH [0] Kl (IB (ah xs i) h1 h2) rfl rfl rfl
abbrev tA(xs:List aj)(us:List Value):List Tok:=[.bV 10000 30 [.sl 10001],.row 10001 131 5 aD xs us]
abbrev TH(g:Nat)(xs:List aj)(us:List Value):List Tok:=[.bV 10000 30 [.sl g],.row g 131 5 aD xs us]
theorem FV(xs:List aj)(us:List Value)(p q:aF)(hp:ak xs p)(hq:ak xs q):aA Tryz.prog 178 [.ptr 10000 0,vP p,vP q] (tA xs us) (.tup []) (tA (bL xs p q) us):=by
 refine aA.expose BX ?_;intro us' hpre hlen
 skip
 have hq':ak (aL xs p q) q:=hq.set;obtain⟨p1,p2,p3,p4⟩:=hp;obtain⟨q1,q2,q3,q4⟩:=hq';have q2':q.1<(xs.length:Nat):=by rwa[dh]at q2
 refine aA.intro (nt:=32) aH mixed BX Tryz.func178 rfl rfl rfl rfl rfl rfl ?_;refine aI ⟨p1,p2⟩ ?_;refine aI (sJ hlen p1 p2) ?_;refine aI ⟨p3,p4⟩ ?_;refine eI 10001 (aI ⟨⟨p1,p2,rM hlen p1 p2 (by decide)⟩,p3,p4⟩ ?_);refine aI (by kernel_rfl) ?_;refine aI ⟨q1,q2⟩ ?_;refine aI (sJ hlen q1 q2') ?_;refine aI ⟨q3,q4⟩ ?_;refine eI 10001 (aI ⟨⟨q1,q2,rM hlen q1 q2' (by decide)⟩,q3,q4⟩ ?_);refine aI (by kernel_rfl) ?_;refine fin [] (aI rfl ?_);exact⟨trivial,⟨rfl,trivial⟩,⟨rfl,hpre⟩,trivial⟩
theorem Sb(xs:List aj)(us:List Value)(p:aF)(hp:ak xs p):aA Tryz.prog 124 [.ptr 10000 0,vP p] (tA xs us) (vP (au xs p)) (tA xs us):=
 aA.oh aH [61,0] Ir (Bq xs p hp) rfl
theorem moveA(xs:List aj)(us:List Value)(p q:aF)(hA:aW xs)(hp:ak xs p)(hq:ak xs q):aA Tryz.prog 141 [.ptr 10000 0,vP p,vP q] (tA xs us) (.tup []) (tA (dG xs p q) us):=by
 have hl:=FV xs us q (au xs p) hq (hA p hp);rw[uN hq (hA p hp)]at hl;refine aA.intro (nt:=12) aH mixed NT Tryz.func141 rfl rfl rfl rfl rfl rfl ?_;refine Or.inr (eI _ (eI _ (aI (Sb xs us p hp) ?_)));refine Or.inr (eI _ (eI _ (aI hl ?_)));refine aI (by kernel_rfl) ?_;refine fin [] (aI rfl ?_);exact⟨trivial,⟨rfl,trivial⟩,⟨rfl,pR _⟩,trivial⟩
theorem Nw(xs:List aj)(us:List Value)(p q:aF)(hp:ak xs p)(hq:ak xs q)(hr:ak xs (au xs p))(hs:ak xs (au xs q)):aA Tryz.prog 138 [.ptr 10000 0,vP p,vP q] (tA xs us) (.tup []) (tA (aU xs p q) us):=by
 refine aA.intro (nt:=21) aH mixed NS Tryz.func138 rfl rfl rfl rfl rfl rfl ?_;refine Or.inr (eI _ (eI _ (aI (Sb xs us p hp) ?_)));refine Or.inr (eI _ (eI _ (aI (Sb xs us q hq) ?_)));refine aI ⟨by kernel_rfl,rfl⟩ ?_;refine aI (fun h1=> ?_) (fun h1=> ?_)
 ·refine Or.inr (eI _ (eI _ (aI (FV xs us (au xs p) (au xs q) hr hs) ?_)));refine fin [] (aI rfl ?_);refine⟨trivial,⟨rfl,trivial⟩,⟨?_,pR _⟩,trivial⟩;have h1:(!gG [(au xs p).1,(au xs p).2] [q.1,q.2])=true:=h1
  have h2:((au xs p).1==q.1&&(au xs p).2==q.2)=false:=by
   cases hc:((au xs p).1==q.1&&(au xs p).2==q.2)with
   |false=>rfl
   |true=>simp[gG,hc]at h1
  show bL xs (au xs p) (au xs q)=_;unfold aU;rw[h2];rfl
 ·refine fin [] (aI rfl ?_);refine⟨trivial,⟨rfl,trivial⟩,⟨?_,pR _⟩,trivial⟩;have h1:(!gG [(au xs p).1,(au xs p).2] [q.1,q.2])=false:=h1;have h2:((au xs p).1==q.1&&(au xs p).2==q.2)=true:=by simpa[gG]using h1
  show xs=_;unfold aU;rw[h2];rfl
theorem kJ(xs:List aj)(us:List Value)(a:Int)(ha:0≤a∧a<(xs.length:Nat)):aA Tryz.prog 145 [.ptr 10000 0,.int .i64 a] (tA xs us) (.tup []) (tA (bC xs a) []):=by
 refine aA.intro (nt:=11) aH mixed F8 Tryz.func145 rfl rfl rfl rfl rfl rfl ?_;refine aI ha ?_;refine fin [] (aI rfl ?_);exact⟨trivial,⟨rfl,trivial⟩,⟨rfl,nP⟩,trivial⟩
theorem uF(xs:List aj)(us:List Value)(k l v:Int)(n:Nat)(hl:xs.length≤1000000)(hn:n≤1000000):aA Tryz.prog 140 [.ptr 10000 0,.int .i64 k,.int .i64 l,.int .i64 v,.raw (.slice none 0 0),.int .i64 (n:Nat)] (tA xs us) (.int .i64 (xs.length:Nat)) (TH 10002 (xs++[bB k l v [] n]) us):=by
 refine aA.intro (nt:=48) aH mixed Ip Tryz.func140 rfl rfl rfl rfl rfl rfl ?_;refine Or.inr (eI _ (eI _ (aI N9 ?_)))
 refine lp Nat (fun j=>[(14,.int .i64 ((n:Nat)-(j:Nat)))])
  (fun j=>match j with|0=>[.bV 13 131 [.int .i64 k,.int .i64 l,.int .i64 v,.sl 19,.raw (.slice none 0 0)],.bV 10000 30 [.sl 10001],.row 10001 131 5 aD xs us,.row 19 2 1 (.int .i64) [] []]|j+1=>[.bV 13 131 [.int .i64 k,.int .i64 l,.int .i64 v,.sl 19,.sl 20001],.bV 10000 30 [.sl 10001],.row 10001 131 5 aD xs us,.row 19 2 1 (.int .i64) [] [],.row 20001 102 2 aM (List.replicate (j+1) (0,0)) []])
  (fun j=>n-j) (fun j=>j≤n) 0 (Nat.zero_le _) ?_ ?_
 ·exact hd [] rfl (aI (aI (Int.sub_zero _).symm rfl) trivial) ⟨trivial,⟨⟨rfl,rfl⟩,⟨rfl,rfl⟩,⟨rfl,rfl⟩,rfl,rfl,trivial⟩,trivial,⟨rfl,trivial⟩,⟨rfl,pR _⟩,⟨rfl,nP⟩,trivial⟩
 intro j hj;have hwr:IntKind.i64.wrap ((n:Nat)-(j:Nat)-1)=(n:Nat)-((j+1:Nat):Int):=by rw[qO _ (by omega)];omega
 cases j with
 |zero=>
  refine aI (fun q1=> ?_) (fun q1=> ?_)
  ·have hlt:0<n:=by have q2:decide ((0:Int)<(n:Nat)-((0:Nat):Int))=true:=q1;simp at q2;omega
   refine aI (by show 1≤1073741824;omega) ?_;refine aP 1 (by omega) ?_ ?_
   ·exact hd [(20001,30)] rfl (aI (aI hwr rfl) trivial) ⟨trivial,⟨⟨rfl,rfl⟩,⟨rfl,rfl⟩,⟨rfl,rfl⟩,rfl,rfl,trivial⟩,trivial,⟨rfl,trivial⟩,⟨rfl,pR _⟩,⟨rfl,nP⟩,⟨rfl,nP⟩,trivial⟩
   ·show n-1<n-0;omega
  ·have hn0:n=0:=by have q2:decide ((0:Int)<(n:Nat)-((0:Nat):Int))=false:=q1;simp at q2;omega
   refine aI (by show xs.length+1≤_;omega) ?_;refine aI (by kernel_rfl) ?_;refine fin [(10002,39)] (aI ?_ ?_)
   ·show IntKind.i64.wrap (((xs++[_]).length:Nat)-1)=((xs.length:Nat):Int)∧IntKind.i64=IntKind.i64;rw[qA,qJ,qO _ (by omega)];exact⟨by omega,rfl⟩
   ·refine⟨trivial,⟨rfl,trivial⟩,⟨?_,pR _⟩,trivial⟩;show xs++[(k,l,v,[],[])]=xs++[bB k l v [] n];unfold bB;rw[hn0];rfl
 |succ j=>
  refine aI (fun q1=> ?_) (fun q1=> ?_)
  ·have hlt:j+1<n:=by have q2:decide ((0:Int)<(n:Nat)-((j+1:Nat):Int))=true:=q1;simp at q2;omega
   refine aI (by show(List.replicate (j+1) ((0:Int),(0:Int))).length+1≤1073741824;rw[List.length_replicate];omega) ?_;refine aP (j+2) (by omega) ?_ ?_
   ·refine hd [(20001,30)] rfl (aI (aI hwr rfl) trivial) ⟨trivial,⟨⟨rfl,rfl⟩,⟨rfl,rfl⟩,⟨rfl,rfl⟩,rfl,rfl,trivial⟩,trivial,⟨rfl,trivial⟩,⟨rfl,pR _⟩,⟨rfl,nP⟩,⟨?_,nP⟩,trivial⟩;show List.replicate (j+1) ((0:Int),(0:Int))++[(0,0)]=List.replicate (j+1+1) (0,0);rw[List.replicate_succ' (n:=j+1)]
   ·show n-(j+2)<n-(j+1);omega
  ·have hn0:n=j+1:=by have q2:decide ((0:Int)<(n:Nat)-((j+1:Nat):Int))=false:=q1;simp at q2;omega
   refine aI (by show xs.length+1≤_;omega) ?_;refine aI (by kernel_rfl) ?_;refine fin [(10002,39)] (aI ?_ ?_)
   ·show IntKind.i64.wrap (((xs++[_]).length:Nat)-1)=((xs.length:Nat):Int)∧IntKind.i64=IntKind.i64;rw[qA,qJ,qO _ (by omega)];exact⟨by omega,rfl⟩
   ·refine⟨trivial,⟨rfl,trivial⟩,⟨?_,pR _⟩,trivial⟩;show xs++[(k,l,v,[],List.replicate (j+1) (0,0))]=xs++[bB k l v [] n];unfold bB;rw[hn0]
theorem GJ(xs:List aj)(us:List Value)(k l v:Int)(n:Nat)(ds:List Int)(hl:xs.length≤1000000)(hn:n≤1000000)(hd0:ds.length≤1000000):aA Tryz.prog 140 [.ptr 10000 0,.int .i64 k,.int .i64 l,.int .i64 v,.sl 10002,.int .i64 (n:Nat)] (tA xs us++[.row 10002 2 1 (.int .i64) ds []]) (.int .i64 (xs.length:Nat)) (TH 10003 (xs++[bB k l v ds n]) us++[.row 10002 2 1 (.int .i64) ds []]):=by
 refine aA.intro (nt:=48) aH mixed Ip Tryz.func140 rfl rfl rfl rfl rfl rfl ?_;refine Or.inr (eI _ (eI _ (aI (Oa ds (by omega)) ?_)))
 refine lp Nat (fun j=>[(14,.int .i64 ((n:Nat)-(j:Nat)))])
  (fun j=>match j with|0=>[.bV 13 131 [.int .i64 k,.int .i64 l,.int .i64 v,.sl 19,.raw (.slice none 0 0)],.bV 10000 30 [.sl 10001],.row 10001 131 5 aD xs us,.row 10002 2 1 (.int .i64) ds [],.row 19 2 1 (.int .i64) ds []]|j+1=>[.bV 13 131 [.int .i64 k,.int .i64 l,.int .i64 v,.sl 19,.sl 20001],.bV 10000 30 [.sl 10001],.row 10001 131 5 aD xs us,.row 10002 2 1 (.int .i64) ds [],.row 19 2 1 (.int .i64) ds [],.row 20001 102 2 aM (List.replicate (j+1) (0,0)) []])
  (fun j=>n-j) (fun j=>j≤n) 0 (Nat.zero_le _) ?_ ?_
 ·exact hd [] rfl (aI (aI (Int.sub_zero _).symm rfl) trivial) ⟨trivial,⟨⟨rfl,rfl⟩,⟨rfl,rfl⟩,⟨rfl,rfl⟩,rfl,rfl,trivial⟩,trivial,⟨rfl,trivial⟩,⟨rfl,pR _⟩,⟨rfl,nP⟩,⟨rfl,nP⟩,trivial⟩
 intro j hj;have hwr:IntKind.i64.wrap ((n:Nat)-(j:Nat)-1)=(n:Nat)-((j+1:Nat):Int):=by rw[qO _ (by omega)];omega
 cases j with
 |zero=>
  refine aI (fun q1=> ?_) (fun q1=> ?_)
  ·have hlt:0<n:=by have q2:decide ((0:Int)<(n:Nat)-((0:Nat):Int))=true:=q1;simp at q2;omega
   refine aI (by show 1≤1073741824;omega) ?_;refine aP 1 (by omega) ?_ ?_
   ·exact hd [(20001,30)] rfl (aI (aI hwr rfl) trivial) ⟨trivial,⟨⟨rfl,rfl⟩,⟨rfl,rfl⟩,⟨rfl,rfl⟩,rfl,rfl,trivial⟩,trivial,⟨rfl,trivial⟩,⟨rfl,pR _⟩,⟨rfl,nP⟩,⟨rfl,nP⟩,⟨rfl,nP⟩,trivial⟩
   ·show n-1<n-0;omega
  ·have hn0:n=0:=by have q2:decide ((0:Int)<(n:Nat)-((0:Nat):Int))=false:=q1;simp at q2;omega
   refine aI (by show xs.length+1≤_;omega) ?_;refine aI (by kernel_rfl) ?_;refine fin [(10003,39)] (aI ?_ ?_)
   ·show IntKind.i64.wrap (((xs++[_]).length:Nat)-1)=((xs.length:Nat):Int)∧IntKind.i64=IntKind.i64;rw[qA,qJ,qO _ (by omega)];exact⟨by omega,rfl⟩
   ·refine⟨trivial,⟨rfl,trivial⟩,⟨?_,pR _⟩,⟨rfl,nP⟩,trivial⟩;show xs++[(k,l,v,ds,[])]=xs++[bB k l v ds n];unfold bB;rw[hn0];rfl
 |succ j=>
  refine aI (fun q1=> ?_) (fun q1=> ?_)
  ·have hlt:j+1<n:=by have q2:decide ((0:Int)<(n:Nat)-((j+1:Nat):Int))=true:=q1;simp at q2;omega
   refine aI (by show(List.replicate (j+1) ((0:Int),(0:Int))).length+1≤1073741824;rw[List.length_replicate];omega) ?_;refine aP (j+2) (by omega) ?_ ?_
   ·refine hd [(20001,30)] rfl (aI (aI hwr rfl) trivial) ⟨trivial,⟨⟨rfl,rfl⟩,⟨rfl,rfl⟩,⟨rfl,rfl⟩,rfl,rfl,trivial⟩,trivial,⟨rfl,trivial⟩,⟨rfl,pR _⟩,⟨rfl,nP⟩,⟨rfl,nP⟩,⟨?_,nP⟩,trivial⟩;show List.replicate (j+1) ((0:Int),(0:Int))++[(0,0)]=List.replicate (j+1+1) (0,0);rw[List.replicate_succ' (n:=j+1)]
   ·show n-(j+2)<n-(j+1);omega
  ·have hn0:n=j+1:=by have q2:decide ((0:Int)<(n:Nat)-((j+1:Nat):Int))=false:=q1;simp at q2;omega
   refine aI (by show xs.length+1≤_;omega) ?_;refine aI (by kernel_rfl) ?_;refine fin [(10003,39)] (aI ?_ ?_)
   ·show IntKind.i64.wrap (((xs++[_]).length:Nat)-1)=((xs.length:Nat):Int)∧IntKind.i64=IntKind.i64;rw[qA,qJ,qO _ (by omega)];exact⟨by omega,rfl⟩
   ·refine⟨trivial,⟨rfl,trivial⟩,⟨?_,pR _⟩,⟨rfl,nP⟩,trivial⟩;show xs++[(k,l,v,ds,List.replicate (j+1) (0,0))]=xs++[bB k l v ds n];unfold bB;rw[hn0]
abbrev tB(xs:List aj)(us:List Value)(pk:Int)(tr:List Int):List Tok:=[.bV 10000 66 [.sl 10001,.sl 10002,.int .i64 pk],.row 10001 131 5 aD xs us,.row 10002 2 1 (.int .i64) tr []]
abbrev PS(g:Nat)(xs:List aj)(us:List Value)(pk:Int)(tr:List Int):List Tok:=[.bV 10000 66 [.sl g,.sl 10002,.int .i64 pk],.row g 131 5 aD xs us,.row 10002 2 1 (.int .i64) tr []]
theorem FW(xs:List aj)(us:List Value)(pk:Int)(tr:List Int)(p q:aF)(hp:ak xs p)(hq:ak xs q):aA Tryz.prog 178 [.ptr 10000 0,vP p,vP q] (tB xs us pk tr) (.tup []) (tB (bL xs p q) us pk tr):=by
 refine aA.expose BX ?_;intro us' hpre hlen;intro us2 hpre2 hlen2;have hq':ak (aL xs p q) q:=hq.set;obtain⟨p1,p2,p3,p4⟩:=hp;obtain⟨q1,q2,q3,q4⟩:=hq';have q2':q.1<(xs.length:Nat):=by rwa[dh]at q2
 refine aA.intro (nt:=32) aH mixed BX Tryz.func178 rfl rfl rfl rfl rfl rfl ?_;refine aI ⟨p1,p2⟩ ?_;refine aI (sJ hlen p1 p2) ?_;refine aI ⟨p3,p4⟩ ?_;refine eI 10001 (aI ⟨⟨p1,p2,rM hlen p1 p2 (by decide)⟩,p3,p4⟩ ?_);refine aI (by kernel_rfl) ?_;refine aI ⟨q1,q2⟩ ?_;refine aI (sJ hlen q1 q2') ?_;refine aI ⟨q3,q4⟩ ?_;refine eI 10001 (aI ⟨⟨q1,q2,rM hlen q1 q2' (by decide)⟩,q3,q4⟩ ?_);refine aI (by kernel_rfl) ?_;refine fin [] (aI rfl ?_);exact⟨trivial,⟨rfl,rfl,⟨rfl,rfl⟩,trivial⟩,⟨rfl,hpre⟩,⟨rfl,nP⟩,trivial⟩
theorem Sc(xs:List aj)(us:List Value)(pk:Int)(tr:List Int)(p:aF)(hp:ak xs p):aA Tryz.prog 124 [.ptr 10000 0,vP p] (tB xs us pk tr) (vP (au xs p)) (tB xs us pk tr):=
 aA.oh aH [61,0] Ir (Bq xs p hp) rfl
theorem moveB(xs:List aj)(us:List Value)(pk:Int)(tr:List Int)(p q:aF)(hA:aW xs)(hp:ak xs p)(hq:ak xs q):aA Tryz.prog 141 [.ptr 10000 0,vP p,vP q] (tB xs us pk tr) (.tup []) (tB (dG xs p q) us pk tr):=by
 have hl:=FW xs us pk tr q (au xs p) hq (hA p hp);rw[uN hq (hA p hp)]at hl;refine aA.intro (nt:=12) aH mixed NT Tryz.func141 rfl rfl rfl rfl rfl rfl ?_;refine Or.inr (eI _ (eI _ (aI (Sc xs us pk tr p hp) ?_)));refine Or.inr (eI _ (eI _ (aI hl ?_)));refine aI (by kernel_rfl) ?_;refine fin [] (aI rfl ?_);exact⟨trivial,⟨rfl,rfl,⟨rfl,rfl⟩,trivial⟩,⟨rfl,pR _⟩,⟨rfl,nP⟩,trivial⟩
theorem Ny(xs:List aj)(us:List Value)(pk:Int)(tr:List Int)(p q:aF)(hp:ak xs p)(hq:ak xs q)(hr:ak xs (au xs p))(hs:ak xs (au xs q)):aA Tryz.prog 138 [.ptr 10000 0,vP p,vP q] (tB xs us pk tr) (.tup []) (tB (aU xs p q) us pk tr):=by
 refine aA.intro (nt:=21) aH mixed NS Tryz.func138 rfl rfl rfl rfl rfl rfl ?_;refine Or.inr (eI _ (eI _ (aI (Sc xs us pk tr p hp) ?_)));refine Or.inr (eI _ (eI _ (aI (Sc xs us pk tr q hq) ?_)));refine aI ⟨by kernel_rfl,rfl⟩ ?_;refine aI (fun h1=> ?_) (fun h1=> ?_)
 ·refine Or.inr (eI _ (eI _ (aI (FW xs us pk tr (au xs p) (au xs q) hr hs) ?_)));refine fin [] (aI rfl ?_);refine⟨trivial,⟨rfl,rfl,⟨rfl,rfl⟩,trivial⟩,⟨?_,pR _⟩,⟨rfl,nP⟩,trivial⟩;have h1:(!gG [(au xs p).1,(au xs p).2] [q.1,q.2])=true:=h1
  have h2:((au xs p).1==q.1&&(au xs p).2==q.2)=false:=by
   cases hc:((au xs p).1==q.1&&(au xs p).2==q.2)with
   |false=>rfl
   |true=>simp[gG,hc]at h1
  show bL xs (au xs p) (au xs q)=_;unfold aU;rw[h2];rfl
 ·refine fin [] (aI rfl ?_);refine⟨trivial,⟨rfl,rfl,⟨rfl,rfl⟩,trivial⟩,⟨?_,pR _⟩,⟨rfl,nP⟩,trivial⟩;have h1:(!gG [(au xs p).1,(au xs p).2] [q.1,q.2])=false:=h1;have h2:((au xs p).1==q.1&&(au xs p).2==q.2)=true:=by simpa[gG]using h1
  show xs=_;unfold aU;rw[h2];rfl
theorem kK(xs:List aj)(us:List Value)(pk:Int)(tr:List Int)(a:Int)(ha:0≤a∧a<(xs.length:Nat)):aA Tryz.prog 145 [.ptr 10000 0,.int .i64 a] (tB xs us pk tr) (.tup []) (tB (bC xs a) [] pk tr):=by
 refine aA.intro (nt:=11) aH mixed F8 Tryz.func145 rfl rfl rfl rfl rfl rfl ?_;refine aI ha ?_;refine fin [] (aI rfl ?_);exact⟨trivial,⟨rfl,rfl,⟨rfl,rfl⟩,trivial⟩,⟨rfl,nP⟩,⟨rfl,nP⟩,trivial⟩
theorem uG(xs:List aj)(us:List Value)(pk:Int)(tr:List Int)(k l v:Int)(n:Nat)(hl:xs.length≤1000000)(hn:n≤1000000):aA Tryz.prog 140 [.ptr 10000 0,.int .i64 k,.int .i64 l,.int .i64 v,.raw (.slice none 0 0),.int .i64 (n:Nat)] (tB xs us pk tr) (.int .i64 (xs.length:Nat)) (PS 10003 (xs++[bB k l v [] n]) us pk tr):=by
 refine aA.intro (nt:=48) aH mixed Ip Tryz.func140 rfl rfl rfl rfl rfl rfl ?_;refine Or.inr (eI _ (eI _ (aI N9 ?_)))
 refine lp Nat (fun j=>[(14,.int .i64 ((n:Nat)-(j:Nat)))])
  (fun j=>match j with|0=>[.bV 13 131 [.int .i64 k,.int .i64 l,.int .i64 v,.sl 19,.raw (.slice none 0 0)],.bV 10000 66 [.sl 10001,.sl 10002,.int .i64 pk],.row 10001 131 5 aD xs us,.row 10002 2 1 (.int .i64) tr [],.row 19 2 1 (.int .i64) [] []]|j+1=>[.bV 13 131 [.int .i64 k,.int .i64 l,.int .i64 v,.sl 19,.sl 20001],.bV 10000 66 [.sl 10001,.sl 10002,.int .i64 pk],.row 10001 131 5 aD xs us,.row 10002 2 1 (.int .i64) tr [],.row 19 2 1 (.int .i64) [] [],.row 20001 102 2 aM (List.replicate (j+1) (0,0)) []])
  (fun j=>n-j) (fun j=>j≤n) 0 (Nat.zero_le _) ?_ ?_
 ·exact hd [] rfl (aI (aI (Int.sub_zero _).symm rfl) trivial) ⟨trivial,⟨⟨rfl,rfl⟩,⟨rfl,rfl⟩,⟨rfl,rfl⟩,rfl,rfl,trivial⟩,trivial,⟨rfl,rfl,⟨rfl,rfl⟩,trivial⟩,⟨rfl,pR _⟩,⟨rfl,nP⟩,⟨rfl,nP⟩,trivial⟩
 intro j hj;have hwr:IntKind.i64.wrap ((n:Nat)-(j:Nat)-1)=(n:Nat)-((j+1:Nat):Int):=by rw[qO _ (by omega)];omega
 cases j with
 |zero=>
  refine aI (fun q1=> ?_) (fun q1=> ?_)
  ·have hlt:0<n:=by have q2:decide ((0:Int)<(n:Nat)-((0:Nat):Int))=true:=q1;simp at q2;omega
   refine aI (by show 1≤1073741824;omega) ?_;refine aP 1 (by omega) ?_ ?_
   ·exact hd [(20001,30)] rfl (aI (aI hwr rfl) trivial) ⟨trivial,⟨⟨rfl,rfl⟩,⟨rfl,rfl⟩,⟨rfl,rfl⟩,rfl,rfl,trivial⟩,trivial,⟨rfl,rfl,⟨rfl,rfl⟩,trivial⟩,⟨rfl,pR _⟩,⟨rfl,nP⟩,⟨rfl,nP⟩,⟨rfl,nP⟩,trivial⟩
   ·show n-1<n-0;omega
  ·have hn0:n=0:=by have q2:decide ((0:Int)<(n:Nat)-((0:Nat):Int))=false:=q1;simp at q2;omega
   refine aI (by show xs.length+1≤_;omega) ?_;refine aI (by kernel_rfl) ?_;refine fin [(10003,39)] (aI ?_ ?_)
   ·show IntKind.i64.wrap (((xs++[_]).length:Nat)-1)=((xs.length:Nat):Int)∧IntKind.i64=IntKind.i64;rw[qA,qJ,qO _ (by omega)];exact⟨by omega,rfl⟩
   ·refine⟨trivial,⟨rfl,rfl,⟨rfl,rfl⟩,trivial⟩,⟨?_,pR _⟩,⟨rfl,nP⟩,trivial⟩;show xs++[(k,l,v,[],[])]=xs++[bB k l v [] n];unfold bB;rw[hn0];rfl
 |succ j=>
  refine aI (fun q1=> ?_) (fun q1=> ?_)
  ·have hlt:j+1<n:=by have q2:decide ((0:Int)<(n:Nat)-((j+1:Nat):Int))=true:=q1;simp at q2;omega
   refine aI (by show(List.replicate (j+1) ((0:Int),(0:Int))).length+1≤1073741824;rw[List.length_replicate];omega) ?_;refine aP (j+2) (by omega) ?_ ?_
   ·refine hd [(20001,30)] rfl (aI (aI hwr rfl) trivial) ⟨trivial,⟨⟨rfl,rfl⟩,⟨rfl,rfl⟩,⟨rfl,rfl⟩,rfl,rfl,trivial⟩,trivial,⟨rfl,rfl,⟨rfl,rfl⟩,trivial⟩,⟨rfl,pR _⟩,⟨rfl,nP⟩,⟨rfl,nP⟩,⟨?_,nP⟩,trivial⟩;show List.replicate (j+1) ((0:Int),(0:Int))++[(0,0)]=List.replicate (j+1+1) (0,0);rw[List.replicate_succ' (n:=j+1)]
   ·show n-(j+2)<n-(j+1);omega
  ·have hn0:n=j+1:=by have q2:decide ((0:Int)<(n:Nat)-((j+1:Nat):Int))=false:=q1;simp at q2;omega
   refine aI (by show xs.length+1≤_;omega) ?_;refine aI (by kernel_rfl) ?_;refine fin [(10003,39)] (aI ?_ ?_)
   ·show IntKind.i64.wrap (((xs++[_]).length:Nat)-1)=((xs.length:Nat):Int)∧IntKind.i64=IntKind.i64;rw[qA,qJ,qO _ (by omega)];exact⟨by omega,rfl⟩
   ·refine⟨trivial,⟨rfl,rfl,⟨rfl,rfl⟩,trivial⟩,⟨?_,pR _⟩,⟨rfl,nP⟩,trivial⟩;show xs++[(k,l,v,[],List.replicate (j+1) (0,0))]=xs++[bB k l v [] n];unfold bB;rw[hn0]
theorem GK(xs:List aj)(us:List Value)(pk:Int)(tr:List Int)(k l v:Int)(n:Nat)(ds:List Int)(hl:xs.length≤1000000)(hn:n≤1000000)(hd0:ds.length≤1000000):aA Tryz.prog 140 [.ptr 10000 0,.int .i64 k,.int .i64 l,.int .i64 v,.sl 10003,.int .i64 (n:Nat)] (tB xs us pk tr++[.row 10003 2 1 (.int .i64) ds []]) (.int .i64 (xs.length:Nat)) (PS 10004 (xs++[bB k l v ds n]) us pk tr++[.row 10003 2 1 (.int .i64) ds []]):=by
 refine aA.intro (nt:=48) aH mixed Ip Tryz.func140 rfl rfl rfl rfl rfl rfl ?_;refine Or.inr (eI _ (eI _ (aI (Oa ds (by omega)) ?_)))
 refine lp Nat (fun j=>[(14,.int .i64 ((n:Nat)-(j:Nat)))])
  (fun j=>match j with|0=>[.bV 13 131 [.int .i64 k,.int .i64 l,.int .i64 v,.sl 19,.raw (.slice none 0 0)],.bV 10000 66 [.sl 10001,.sl 10002,.int .i64 pk],.row 10001 131 5 aD xs us,.row 10002 2 1 (.int .i64) tr [],.row 10003 2 1 (.int .i64) ds [],.row 19 2 1 (.int .i64) ds []]|j+1=>[.bV 13 131 [.int .i64 k,.int .i64 l,.int .i64 v,.sl 19,.sl 20001],.bV 10000 66 [.sl 10001,.sl 10002,.int .i64 pk],.row 10001 131 5 aD xs us,.row 10002 2 1 (.int .i64) tr [],.row 10003 2 1 (.int .i64) ds [],.row 19 2 1 (.int .i64) ds [],.row 20001 102 2 aM (List.replicate (j+1) (0,0)) []])
  (fun j=>n-j) (fun j=>j≤n) 0 (Nat.zero_le _) ?_ ?_
 ·exact hd [] rfl (aI (aI (Int.sub_zero _).symm rfl) trivial) ⟨trivial,⟨⟨rfl,rfl⟩,⟨rfl,rfl⟩,⟨rfl,rfl⟩,rfl,rfl,trivial⟩,trivial,⟨rfl,rfl,⟨rfl,rfl⟩,trivial⟩,⟨rfl,pR _⟩,⟨rfl,nP⟩,⟨rfl,nP⟩,⟨rfl,nP⟩,trivial⟩
 intro j hj;have hwr:IntKind.i64.wrap ((n:Nat)-(j:Nat)-1)=(n:Nat)-((j+1:Nat):Int):=by rw[qO _ (by omega)];omega
 cases j with
 |zero=>
  refine aI (fun q1=> ?_) (fun q1=> ?_)
  ·have hlt:0<n:=by have q2:decide ((0:Int)<(n:Nat)-((0:Nat):Int))=true:=q1;simp at q2;omega
   refine aI (by show 1≤1073741824;omega) ?_;refine aP 1 (by omega) ?_ ?_
   ·exact hd [(20001,30)] rfl (aI (aI hwr rfl) trivial) ⟨trivial,⟨⟨rfl,rfl⟩,⟨rfl,rfl⟩,⟨rfl,rfl⟩,rfl,rfl,trivial⟩,trivial,⟨rfl,rfl,⟨rfl,rfl⟩,trivial⟩,⟨rfl,pR _⟩,⟨rfl,nP⟩,⟨rfl,nP⟩,⟨rfl,nP⟩,⟨rfl,nP⟩,trivial⟩
   ·show n-1<n-0;omega
  ·have hn0:n=0:=by have q2:decide ((0:Int)<(n:Nat)-((0:Nat):Int))=false:=q1;simp at q2;omega
   refine aI (by show xs.length+1≤_;omega) ?_;refine aI (by kernel_rfl) ?_;refine fin [(10004,39)] (aI ?_ ?_)
   ·show IntKind.i64.wrap (((xs++[_]).length:Nat)-1)=((xs.length:Nat):Int)∧IntKind.i64=IntKind.i64;rw[qA,qJ,qO _ (by omega)];exact⟨by omega,rfl⟩
   ·refine⟨trivial,⟨rfl,rfl,⟨rfl,rfl⟩,trivial⟩,⟨?_,pR _⟩,⟨rfl,nP⟩,⟨rfl,nP⟩,trivial⟩;show xs++[(k,l,v,ds,[])]=xs++[bB k l v ds n];unfold bB;rw[hn0];rfl
 |succ j=>
  refine aI (fun q1=> ?_) (fun q1=> ?_)
  ·have hlt:j+1<n:=by have q2:decide ((0:Int)<(n:Nat)-((j+1:Nat):Int))=true:=q1;simp at q2;omega
   refine aI (by show(List.replicate (j+1) ((0:Int),(0:Int))).length+1≤1073741824;rw[List.length_replicate];omega) ?_;refine aP (j+2) (by omega) ?_ ?_
   ·refine hd [(20001,30)] rfl (aI (aI hwr rfl) trivial) ⟨trivial,⟨⟨rfl,rfl⟩,⟨rfl,rfl⟩,⟨rfl,rfl⟩,rfl,rfl,trivial⟩,trivial,⟨rfl,rfl,⟨rfl,rfl⟩,trivial⟩,⟨rfl,pR _⟩,⟨rfl,nP⟩,⟨rfl,nP⟩,⟨rfl,nP⟩,⟨?_,nP⟩,trivial⟩;show List.replicate (j+1) ((0:Int),(0:Int))++[(0,0)]=List.replicate (j+1+1) (0,0);rw[List.replicate_succ' (n:=j+1)]
   ·show n-(j+2)<n-(j+1);omega
  ·have hn0:n=j+1:=by have q2:decide ((0:Int)<(n:Nat)-((j+1:Nat):Int))=false:=q1;simp at q2;omega
   refine aI (by show xs.length+1≤_;omega) ?_;refine aI (by kernel_rfl) ?_;refine fin [(10004,39)] (aI ?_ ?_)
   ·show IntKind.i64.wrap (((xs++[_]).length:Nat)-1)=((xs.length:Nat):Int)∧IntKind.i64=IntKind.i64;rw[qA,qJ,qO _ (by omega)];exact⟨by omega,rfl⟩
   ·refine⟨trivial,⟨rfl,rfl,⟨rfl,rfl⟩,trivial⟩,⟨?_,pR _⟩,⟨rfl,nP⟩,⟨rfl,nP⟩,trivial⟩;show xs++[(k,l,v,ds,List.replicate (j+1) (0,0))]=xs++[bB k l v ds n];unfold bB;rw[hn0]
theorem NW:bH Tryz.prog 142=true:=by kernel_rfl
theorem F6:bH Tryz.prog 143=true:=by kernel_rfl
theorem RO:bH Tryz.prog 139=true:=by kernel_rfl
theorem Kj:bH Tryz.prog 175=true:=by kernel_rfl
theorem Nk(x:aj):aO Tryz.prog 175 [.rp aD x] (.int .i64 (mH x)):=by
 refine aO.intro (nt:=14) aH mixed Kj Tryz.func175 rfl rfl rfl rfl rfl ?_;refine aI (fun q1=> ?_) (fun q1=> ?_)
 ·refine⟨?_,rfl⟩;unfold mH;rw[show(x.1==9)=true from q1];rfl
 ·refine⟨?_,rfl⟩;unfold mH;rw[show(x.1==9)=false from q1];rfl
theorem Nj(xs:List aj)(us:List Value)(i:Int):aA Tryz.prog 175 [.ep 10000 5 i 0] [.row 10000 131 5 aD xs us] (.int .i64 (mH (ah xs i))) [.row 10000 131 5 aD xs us]:=
 aA.oh aH [0] Kj (Nk (ah xs i)) rfl
theorem YT(xs:List aj)(us:List Value)(x y:Int)(hA:aW xs)(h0:ak xs (0,0))(hl:xs.length≤900000)(hx:0≤x∧x<(xs.length:Nat))(h1:ak xs (y,1))(hk:(ah xs y).1=7∨(ah xs y).1=8)(h2:(ah xs y).1=7→ak xs (y,2))(h3:(ah xs y).1≠7→0<(ah xs y).2.2.2.1.length)(hdd:(ah xs y).2.2.2.1.length≤1000000)(hp:(ah xs y).2.2.2.2.length≤1000):
  aA Tryz.prog 142 [.ptr 10000 0,.int .i64 x,.int .i64 y] (tA xs us) (.tup []) (TH 10002 (bG xs x y) us):=by
 have hy:0≤y∧y<(xs.length:Nat):=⟨h1.1,h1.2.1⟩;refine aA.intro (nt:=64) aH mixed NW Tryz.func142 rfl rfl rfl rfl rfl rfl ?_;refine aI hy ?_;refine Or.inr (eI _ (eI _ (aI (yE xs us y (by omega) (by omega)) ?_)));refine aI hx ?_;refine aI (fun q1=> ?_) (fun q1=> ?_)
 ·have q8:(ah xs y).1=8:=by have q2:((ah xs y).1==8)=true:=q1;simpa using q2
  have q7:(ah xs y).1≠7:=by omega
  refine aI ⟨by decide,by have:=h3 q7;show(0:Int)<((ah xs y).2.2.2.1.length:Nat);omega⟩ ?_;refine Or.inl (eI _ (aI (Km _ _ _) ?_));refine Or.inr (eI _ (eI _ (aI (uF xs us 6 0 (wE (ah xs y).2.2.1 (iZ (ah xs y).2.2.2.1 0) (ah xs x).2.2.1) 1 (by omega) (by omega)) ?_)));refine aI (by kernel_rfl) ?_;have hA1:=hA.add h0 6 0 (wE (ah xs y).2.2.1 (iZ (ah xs y).2.2.2.1 0) (ah xs x).2.2.1) [] 1;refine Or.inl (eI _ (aI (bN y 1) ?_));refine Or.inl (eI _ (aI (bN _ 0) ?_));refine Or.inr (eI _ (eI _ (aI (moveA _ us (y,1) ((xs.length:Nat),0) hA1 h1.app (ak.new (by decide) (by decide))) ?_)))
  refine fin [(10002,37)] (aI rfl ?_);refine⟨trivial,⟨rfl,trivial⟩,⟨?_,pR _⟩,trivial⟩;show _=bG xs x y;unfold bG;rw[show((ah xs y).1==7)=false by simpa using q7];rfl
 ·have q8:(ah xs y).1≠8:=by have q2:((ah xs y).1==8)=false:=q1;simpa using q2
  have q7:(ah xs y).1=7:=by omega
  refine Or.inr (eI _ (eI _ (aI (GJ xs us 8 (ah xs y).2.1 (ah xs y).2.2.1 2 [(ah xs x).2.2.1] (by omega) (by omega) (by simp)) ?_)));have hA1:=hA.add h0 8 (ah xs y).2.1 (ah xs y).2.2.1 [(ah xs x).2.2.1] 2;refine Or.inl (eI _ (aI (bN y 1) ?_));refine Or.inl (eI _ (aI (bN _ 0) ?_));refine Or.inr (eI _ (eI _ (aI (moveA (xs++[bB 8 (ah xs y).2.1 (ah xs y).2.2.1 [(ah xs x).2.2.1] 2]) us (y,1) ((xs.length:Nat),0) hA1 h1.app (ak.new (by decide) (by decide))) ?_)));refine Or.inl (eI _ (aI (bN y 2) ?_));refine Or.inl (eI _ (aI (bN _ 1) ?_));refine Or.inr (eI _ (eI _ (aI (moveA _ us (y,2) ((xs.length:Nat),1) (hA1.move h1.app (ak.new (by decide) (by decide))) ((h2 q7).app.move) ((ak.new (by decide) (by decide)).move)) ?_)))
  refine fin [(10002,51)] (aI rfl ?_);refine⟨trivial,⟨rfl,trivial⟩,⟨?_,pR _⟩,trivial⟩;show _=bG xs x y;unfold bG;rw[show((ah xs y).1==7)=true by simpa using q7];rfl
theorem jQ(xs:List aj)(us:List Value)(pk:Int)(tr:List Int)(x y:Int)(hA:aW xs)(h0:ak xs (0,0))(hl:xs.length≤900000)(hx:0≤x∧x<(xs.length:Nat))(h1:ak xs (y,1))(hk:(ah xs y).1=7∨(ah xs y).1=8)(h2:(ah xs y).1=7→ak xs (y,2))(h3:(ah xs y).1≠7→0<(ah xs y).2.2.2.1.length)(hdd:(ah xs y).2.2.2.1.length≤1000000)(hp:(ah xs y).2.2.2.2.length≤1000):
  aA Tryz.prog 142 [.ptr 10000 0,.int .i64 x,.int .i64 y] (tB xs us pk tr) (.tup []) (PS 10003 (bG xs x y) us pk tr):=by
 have hy:0≤y∧y<(xs.length:Nat):=⟨h1.1,h1.2.1⟩;refine aA.intro (nt:=64) aH mixed NW Tryz.func142 rfl rfl rfl rfl rfl rfl ?_;refine aI hy ?_;refine Or.inr (eI _ (eI _ (aI (yE xs us y (by omega) (by omega)) ?_)));refine aI hx ?_;refine aI (fun q1=> ?_) (fun q1=> ?_)
 ·have q8:(ah xs y).1=8:=by have q2:((ah xs y).1==8)=true:=q1;simpa using q2
  have q7:(ah xs y).1≠7:=by omega
  refine aI ⟨by decide,by have:=h3 q7;show(0:Int)<((ah xs y).2.2.2.1.length:Nat);omega⟩ ?_;refine Or.inl (eI _ (aI (Km _ _ _) ?_));refine Or.inr (eI _ (eI _ (aI (uG xs us pk tr 6 0 (wE (ah xs y).2.2.1 (iZ (ah xs y).2.2.2.1 0) (ah xs x).2.2.1) 1 (by omega) (by omega)) ?_)));refine aI (by kernel_rfl) ?_;have hA1:=hA.add h0 6 0 (wE (ah xs y).2.2.1 (iZ (ah xs y).2.2.2.1 0) (ah xs x).2.2.1) [] 1;refine Or.inl (eI _ (aI (bN y 1) ?_));refine Or.inl (eI _ (aI (bN _ 0) ?_));refine Or.inr (eI _ (eI _ (aI (moveB _ us pk tr (y,1) ((xs.length:Nat),0) hA1 h1.app (ak.new (by decide) (by decide))) ?_)))
  refine fin [(10003,37)] (aI rfl ?_);refine⟨trivial,⟨rfl,rfl,⟨rfl,rfl⟩,trivial⟩,⟨?_,pR _⟩,⟨rfl,nP⟩,trivial⟩;show _=bG xs x y;unfold bG;rw[show((ah xs y).1==7)=false by simpa using q7];rfl
 ·have q8:(ah xs y).1≠8:=by have q2:((ah xs y).1==8)=false:=q1;simpa using q2
  have q7:(ah xs y).1=7:=by omega
  refine Or.inr (eI _ (eI _ (aI (GK xs us pk tr 8 (ah xs y).2.1 (ah xs y).2.2.1 2 [(ah xs x).2.2.1] (by omega) (by omega) (by simp)) ?_)));have hA1:=hA.add h0 8 (ah xs y).2.1 (ah xs y).2.2.1 [(ah xs x).2.2.1] 2;refine Or.inl (eI _ (aI (bN y 1) ?_));refine Or.inl (eI _ (aI (bN _ 0) ?_));refine Or.inr (eI _ (eI _ (aI (moveB (xs++[bB 8 (ah xs y).2.1 (ah xs y).2.2.1 [(ah xs x).2.2.1] 2]) us pk tr (y,1) ((xs.length:Nat),0) hA1 h1.app (ak.new (by decide) (by decide))) ?_)));refine Or.inl (eI _ (aI (bN y 2) ?_));refine Or.inl (eI _ (aI (bN _ 1) ?_))
  refine Or.inr (eI _ (eI _ (aI (moveB _ us pk tr (y,2) ((xs.length:Nat),1) (hA1.move h1.app (ak.new (by decide) (by decide))) ((h2 q7).app.move) ((ak.new (by decide) (by decide)).move)) ?_)));refine fin [(10003,51)] (aI rfl ?_);refine⟨trivial,⟨rfl,rfl,⟨rfl,rfl⟩,trivial⟩,⟨?_,pR _⟩,⟨rfl,nP⟩,trivial⟩;show _=bG xs x y;unfold bG;rw[show((ah xs y).1==7)=true by simpa using q7];rfl
theorem Uc(xs:List aj)(us:List Value)(x y:Int)(hA:aW xs)(h0:ak xs (0,0))(hl:xs.length≤900000)(hx:0≤x∧x<(xs.length:Nat))(hy1:ak xs (y,1))(h6:(ah xs y).1=11→(ah xs y).2.2.2.1.length=2)(hc:(ah xs y).1≠11→0≤(ah xs x).2.2.1∧(ah xs x).2.2.1<((ah xs y).2.2.2.1.length:Nat)∧(ah xs x).1=9)(hp:(ah xs x).2.2.2.2.length≤1000)(hp0:0<(ah xs x).2.2.2.2.length)(hdd:(ah xs y).2.2.2.1.length≤1000000)(hpy:(ah xs y).2.2.2.2.length≤1000):
  aA Tryz.prog 143 [.ptr 10000 0,.int .i64 x,.int .i64 y] (tA xs us) (.tup []) (TH 10002 (dD xs x y) us):=by
 have hy:0≤y∧y<(xs.length:Nat):=⟨hy1.1,hy1.2.1⟩;refine aA.intro (nt:=105) aH mixed F6 Tryz.func143 rfl rfl rfl rfl rfl rfl ?_;refine aI hy ?_;refine Or.inr (eI _ (eI _ (aI (yE xs us y (by omega) (by omega)) ?_)));refine aI (fun q1=> ?_) (fun q1=> ?_)
 ·have q2:(ah xs y).1=11:=by have q2:((ah xs y).1==11)=true:=q1;simpa using q2
  have hl2:=h6 q2;refine aI ⟨by decide,by show(1:Int)<((ah xs y).2.2.2.1.length:Nat);omega⟩ ?_;refine aI hx ?_;refine aI (fun q3=> ?_) (fun q3=> ?_)
  ·have q4:((ah xs x).2.2.1==0)=false:=by have q4:((ah xs x).2.2.1 !=0)=true:=q3;simpa[bne]using q4
   refine aI ⟨by decide,by show(0:Int)<((ah xs y).2.2.2.1.length:Nat);omega⟩ ?_;refine Or.inr (eI _ (eI _ (aI (uF xs us 12 (ah xs y).2.1 (iZ (ah xs y).2.2.2.1 0) 1 (by omega) (by omega)) ?_)));have hA1:=hA.add h0 12 (ah xs y).2.1 (iZ (ah xs y).2.2.2.1 0) [] 1;refine Or.inl (eI _ (aI (bN y 1) ?_));refine Or.inl (eI _ (aI (bN _ 0) ?_));refine Or.inr (eI _ (eI _ (aI (moveA _ us (y,1) ((xs.length:Nat),0) hA1 hy1.app (ak.new (by decide) (by decide))) ?_)));refine fin [(10002,45)] (aI rfl ?_);refine⟨trivial,⟨rfl,trivial⟩,⟨?_,pR _⟩,trivial⟩;show _=dD xs x y
   unfold dD;rw[show((ah xs y).1==11)=true from q1,q4];rfl
  ·have q4:((ah xs x).2.2.1==0)=true:=by have q4:((ah xs x).2.2.1 !=0)=false:=q3;simpa[bne]using q4
   refine Or.inr (eI _ (eI _ (aI (uF xs us 12 (ah xs y).2.1 (iZ (ah xs y).2.2.2.1 1) 1 (by omega) (by omega)) ?_)));have hA1:=hA.add h0 12 (ah xs y).2.1 (iZ (ah xs y).2.2.2.1 1) [] 1;refine Or.inl (eI _ (aI (bN y 1) ?_));refine Or.inl (eI _ (aI (bN _ 0) ?_));refine Or.inr (eI _ (eI _ (aI (moveA _ us (y,1) ((xs.length:Nat),0) hA1 hy1.app (ak.new (by decide) (by decide))) ?_)));refine fin [(10002,45)] (aI rfl ?_);refine⟨trivial,⟨rfl,trivial⟩,⟨?_,pR _⟩,trivial⟩;show _=dD xs x y;unfold dD;rw[show((ah xs y).1==11)=true from q1,q4];rfl
 ·have q2:(ah xs y).1≠11:=by have q2:((ah xs y).1==11)=false:=q1;simpa using q2
  obtain⟨v0,v1,k9⟩:=hc q2
  have hf:mH (ah xs x)=((((ah xs x).2.2.2.2.length-1):Nat):Int):=by
   unfold mH;rw[show((ah xs x).1==9)=true by simpa using k9,qG,qO _ (by omega)];omega
  have hfe:=Nj xs us x;rw[hf]at hfe;refine aI hx ?_;refine Or.inr (eI _ (eI _ (aI hfe ?_)));refine aI hx ?_;refine aI ⟨v0,v1⟩ ?_;refine Or.inr (eI _ (eI _ (aI (uF xs us 12 (ah xs y).2.1 (iZ (ah xs y).2.2.2.1 (ah xs x).2.2.1) 1 (by omega) (by omega)) ?_)));refine aI (by kernel_rfl) ?_;refine Or.inl (eI _ (aI (bN _ 0) ?_));have h1A:aW (bD xs y (ah xs x).2.2.1):=hA.add h0 _ _ _ _ _;have h1l:(bD xs y (ah xs x).2.2.1).length=xs.length+1:=pO _ _ _;have h1R:ak (bD xs y (ah xs x).2.2.1) (iN (bD xs y (ah xs x).2.2.1).length 0):=by rw[h1l];exact ak.new (by decide) (by decide)
  have h1:∀{p},ak xs p→ak (bD xs y (ah xs x).2.2.1) p:=fun h=>h.app
  have hxi:∀i:Nat,i<((ah xs x).2.2.2.2.length-1)→ak (bD xs y (ah xs x).2.2.1) (x,((i+1:Nat):Int)):=fun i hi=>h1 ⟨hx.1,hx.2,by omega,by show((i+1:Nat):Int)<((ah xs x).2.2.2.2.length:Nat);omega⟩
  refine lp Nat (fun k=>[(12,.int .i64 ((k+1:Nat):Int))])
   (fun k=>[.bV 6 131 [.int .i64 (ah xs y).1,.int .i64 (ah xs y).2.1,.int .i64 (ah xs y).2.2.1,.sl 20,.sl 1000020],.bV 11 102 [.int .i64 (iN (xs.length+1) k).1,.int .i64 (iN (xs.length+1) k).2],.bV 10000 30 [.sl 20000],.row 20000 131 5 aD (ow (ah xs y).2.1 x (xs.length+1) (bD xs y (ah xs x).2.2.1) k) us]) (fun k=>((ah xs x).2.2.2.2.length-1)-k) (fun k=>k≤((ah xs x).2.2.2.2.length-1)) 0 (Nat.zero_le _) ?_ ?_
  ·exact hd [(20000,74)] rfl (aI (aI rfl rfl) trivial) ⟨trivial,⟨⟨rfl,rfl⟩,⟨rfl,rfl⟩,⟨rfl,rfl⟩,rfl,rfl,trivial⟩,trivial,⟨⟨rfl,rfl⟩,⟨rfl,rfl⟩,trivial⟩,trivial,⟨rfl,trivial⟩,⟨rfl,pR _⟩,trivial⟩
  intro k hk;have hcl:(ow (ah xs y).2.1 x (xs.length+1) (bD xs y (ah xs x).2.2.1) k).length=xs.length+1+k:=by rw[oU,h1l]
  refine aI (fun q3=> ?_) (fun q3=> ?_)
  ·have hlt:k<((ah xs x).2.2.2.2.length-1):=by
    have q4:decide (((k+1:Nat):Int)≤((((ah xs x).2.2.2.2.length-1):Nat):Int))=true:=q3;simp only[qQ]at q4;omega
   have hadd:=uF (ow (ah xs y).2.1 x (xs.length+1) (bD xs y (ah xs x).2.2.1) k) us 3 (ah xs y).2.1 0 3 (by rw[hcl];omega) (by omega);rw[hcl]at hadd;refine Or.inr (eI _ (eI _ (aI hadd ?_)))
   have hnew:∀s:Int,0≤s→s<3→ak ((ow (ah xs y).2.1 x (xs.length+1) (bD xs y (ah xs x).2.2.1) k)++[bB 3 (ah xs y).2.1 0 [] 3]) (((xs.length+1+k:Nat):Int),s):=fun s h0 h1=>by
    have:=uJ (lv:=(ah xs y).2.1) (x:=x) (xs:=(bD xs y (ah xs x).2.2.1)) k h0 h1;rw[h1l]at this;exact this
   have hR:=vR (lv:=(ah xs y).2.1) (x:=x) h1R k;rw[h1l]at hR;have hAk:=uK (lv:=(ah xs y).2.1) (x:=x) h1A (h1 h0) h1R k fun i hi=>hxi i (by omega)
   rw[h1l]at hAk;refine Or.inl (eI _ (aI (bN _ 0) ?_));refine Or.inr (eI _ (eI _ (aI (FV ((ow (ah xs y).2.1 x (xs.length+1) (bD xs y (ah xs x).2.2.1) k)++[bB 3 (ah xs y).2.1 0 [] 3]) us (iN (xs.length+1) k) (((xs.length+1+k:Nat):Int),0) hR.app (hnew 0 (by decide) (by decide))) ?_)));refine aI (by kernel_rfl) ?_;refine Or.inl (eI _ (aI (bN x _) ?_));refine Or.inl (eI _ (aI (bN _ 1) ?_));refine Or.inr (eI _ (eI _ (aI (moveA (bL ((ow (ah xs y).2.1 x (xs.length+1) (bD xs y (ah xs x).2.2.1) k)++[bB 3 (ah xs y).2.1 0 [] 3]) (iN (xs.length+1) k) (((xs.length+1+k:Nat):Int),0)) us (x,((k+1:Nat):Int)) (((xs.length+1+k:Nat):Int),1) ((hAk.add (mq (h1 h0) k) _ _ _ _ _).link hR.app (hnew 0 (by decide) (by decide))) (mq (hxi k hlt) k).app.link (hnew 1 (by decide) (by decide)).link) ?_)))
   refine Or.inl (eI _ (aI (bN _ 2) ?_));refine aP (k+1) (by omega) ?_ ?_
   ·exact hd [(20000,85)] rfl (aI (aI (dB (by omega)) rfl) trivial) ⟨trivial,⟨⟨rfl,rfl⟩,⟨rfl,rfl⟩,⟨rfl,rfl⟩,rfl,rfl,trivial⟩,trivial,⟨⟨rfl,rfl⟩,⟨rfl,rfl⟩,trivial⟩,trivial,⟨rfl,trivial⟩,⟨rfl,pR _⟩,trivial⟩
   ·show((ah xs x).2.2.2.2.length-1)-(k+1)<((ah xs x).2.2.2.2.length-1)-k;omega
  ·have hke:k=((ah xs x).2.2.2.2.length-1):=by
    have q4:decide (((k+1:Nat):Int)≤((((ah xs x).2.2.2.2.length-1):Nat):Int))=false:=q3;simp only[decide_eq_false_iff_not]at q4;omega
   have hR:=vR (lv:=(ah xs y).2.1) (x:=x) h1R k;rw[h1l]at hR;have hAk:=uK (lv:=(ah xs y).2.1) (x:=x) h1A (h1 h0) h1R k fun i hi=>hxi i (by omega)
   rw[h1l]at hAk;refine Or.inl (eI _ (aI (bN y 1) ?_));refine Or.inr (eI _ (eI _ (aI (moveA (ow (ah xs y).2.1 x (xs.length+1) (bD xs y (ah xs x).2.2.1) k) us (y,1) (iN (xs.length+1) k) hAk (mq (h1 hy1) k) hR) ?_)));refine aI (by kernel_rfl) ?_;refine fin [(10002,20000)] (aI rfl ?_);refine⟨trivial,⟨rfl,trivial⟩,⟨?_,pR _⟩,trivial⟩;show dG (ow (ah xs y).2.1 x (xs.length+1) (bD xs y (ah xs x).2.2.1) k) (y,1) (iN (xs.length+1) k)=dD xs x y;unfold dD;rw[show((ah xs y).1==11)=false from q1,hke];rfl
theorem Ud(xs:List aj)(us:List Value)(pk:Int)(tr:List Int)(x y:Int)(hA:aW xs)(h0:ak xs (0,0))(hl:xs.length≤900000)(hx:0≤x∧x<(xs.length:Nat))(hy1:ak xs (y,1))(h6:(ah xs y).1=11→(ah xs y).2.2.2.1.length=2)(hc:(ah xs y).1≠11→0≤(ah xs x).2.2.1∧(ah xs x).2.2.1<((ah xs y).2.2.2.1.length:Nat)∧(ah xs x).1=9)(hp:(ah xs x).2.2.2.2.length≤1000)(hp0:0<(ah xs x).2.2.2.2.length)(hdd:(ah xs y).2.2.2.1.length≤1000000)(hpy:(ah xs y).2.2.2.2.length≤1000):
  aA Tryz.prog 143 [.ptr 10000 0,.int .i64 x,.int .i64 y] (tB xs us pk tr) (.tup []) (PS 10003 (dD xs x y) us pk tr):=by
 have hy:0≤y∧y<(xs.length:Nat):=⟨hy1.1,hy1.2.1⟩;refine aA.intro (nt:=105) aH mixed F6 Tryz.func143 rfl rfl rfl rfl rfl rfl ?_;refine aI hy ?_;refine Or.inr (eI _ (eI _ (aI (yE xs us y (by omega) (by omega)) ?_)));refine aI (fun q1=> ?_) (fun q1=> ?_)
 ·have q2:(ah xs y).1=11:=by have q2:((ah xs y).1==11)=true:=q1;simpa using q2
  have hl2:=h6 q2;refine aI ⟨by decide,by show(1:Int)<((ah xs y).2.2.2.1.length:Nat);omega⟩ ?_;refine aI hx ?_;refine aI (fun q3=> ?_) (fun q3=> ?_)
  ·have q4:((ah xs x).2.2.1==0)=false:=by have q4:((ah xs x).2.2.1 !=0)=true:=q3;simpa[bne]using q4
   refine aI ⟨by decide,by show(0:Int)<((ah xs y).2.2.2.1.length:Nat);omega⟩ ?_;refine Or.inr (eI _ (eI _ (aI (uG xs us pk tr 12 (ah xs y).2.1 (iZ (ah xs y).2.2.2.1 0) 1 (by omega) (by omega)) ?_)));have hA1:=hA.add h0 12 (ah xs y).2.1 (iZ (ah xs y).2.2.2.1 0) [] 1;refine Or.inl (eI _ (aI (bN y 1) ?_));refine Or.inl (eI _ (aI (bN _ 0) ?_));refine Or.inr (eI _ (eI _ (aI (moveB _ us pk tr (y,1) ((xs.length:Nat),0) hA1 hy1.app (ak.new (by decide) (by decide))) ?_)));refine fin [(10003,45)] (aI rfl ?_);refine⟨trivial,⟨rfl,rfl,⟨rfl,rfl⟩,trivial⟩,⟨?_,pR _⟩,⟨rfl,nP⟩,trivial⟩
   show _=dD xs x y;unfold dD;rw[show((ah xs y).1==11)=true from q1,q4];rfl
  ·have q4:((ah xs x).2.2.1==0)=true:=by have q4:((ah xs x).2.2.1 !=0)=false:=q3;simpa[bne]using q4
   refine Or.inr (eI _ (eI _ (aI (uG xs us pk tr 12 (ah xs y).2.1 (iZ (ah xs y).2.2.2.1 1) 1 (by omega) (by omega)) ?_)));have hA1:=hA.add h0 12 (ah xs y).2.1 (iZ (ah xs y).2.2.2.1 1) [] 1;refine Or.inl (eI _ (aI (bN y 1) ?_));refine Or.inl (eI _ (aI (bN _ 0) ?_));refine Or.inr (eI _ (eI _ (aI (moveB _ us pk tr (y,1) ((xs.length:Nat),0) hA1 hy1.app (ak.new (by decide) (by decide))) ?_)));refine fin [(10003,45)] (aI rfl ?_);refine⟨trivial,⟨rfl,rfl,⟨rfl,rfl⟩,trivial⟩,⟨?_,pR _⟩,⟨rfl,nP⟩,trivial⟩;show _=dD xs x y;unfold dD;rw[show((ah xs y).1==11)=true from q1,q4];rfl
 ·have q2:(ah xs y).1≠11:=by have q2:((ah xs y).1==11)=false:=q1;simpa using q2
  obtain⟨v0,v1,k9⟩:=hc q2
  have hf:mH (ah xs x)=((((ah xs x).2.2.2.2.length-1):Nat):Int):=by
   unfold mH;rw[show((ah xs x).1==9)=true by simpa using k9,qG,qO _ (by omega)];omega
  have hfe:=Nj xs us x;rw[hf]at hfe;refine aI hx ?_;refine Or.inr (eI _ (eI _ (aI hfe ?_)));refine aI hx ?_;refine aI ⟨v0,v1⟩ ?_;refine Or.inr (eI _ (eI _ (aI (uG xs us pk tr 12 (ah xs y).2.1 (iZ (ah xs y).2.2.2.1 (ah xs x).2.2.1) 1 (by omega) (by omega)) ?_)));refine aI (by kernel_rfl) ?_;refine Or.inl (eI _ (aI (bN _ 0) ?_));have h1A:aW (bD xs y (ah xs x).2.2.1):=hA.add h0 _ _ _ _ _;have h1l:(bD xs y (ah xs x).2.2.1).length=xs.length+1:=pO _ _ _;have h1R:ak (bD xs y (ah xs x).2.2.1) (iN (bD xs y (ah xs x).2.2.1).length 0):=by rw[h1l];exact ak.new (by decide) (by decide)
  have h1:∀{p},ak xs p→ak (bD xs y (ah xs x).2.2.1) p:=fun h=>h.app
  have hxi:∀i:Nat,i<((ah xs x).2.2.2.2.length-1)→ak (bD xs y (ah xs x).2.2.1) (x,((i+1:Nat):Int)):=fun i hi=>h1 ⟨hx.1,hx.2,by omega,by show((i+1:Nat):Int)<((ah xs x).2.2.2.2.length:Nat);omega⟩
  refine lp Nat (fun k=>[(12,.int .i64 ((k+1:Nat):Int))])
   (fun k=>[.bV 6 131 [.int .i64 (ah xs y).1,.int .i64 (ah xs y).2.1,.int .i64 (ah xs y).2.2.1,.sl 20,.sl 1000020],.bV 11 102 [.int .i64 (iN (xs.length+1) k).1,.int .i64 (iN (xs.length+1) k).2],.bV 10000 66 [.sl 20000,.sl 10002,.int .i64 pk],.row 20000 131 5 aD (ow (ah xs y).2.1 x (xs.length+1) (bD xs y (ah xs x).2.2.1) k) us,.row 10002 2 1 (.int .i64) tr []]) (fun k=>((ah xs x).2.2.2.2.length-1)-k) (fun k=>k≤((ah xs x).2.2.2.2.length-1)) 0 (Nat.zero_le _) ?_ ?_
  ·exact hd [(20000,74)] rfl (aI (aI rfl rfl) trivial) ⟨trivial,⟨⟨rfl,rfl⟩,⟨rfl,rfl⟩,⟨rfl,rfl⟩,rfl,rfl,trivial⟩,trivial,⟨⟨rfl,rfl⟩,⟨rfl,rfl⟩,trivial⟩,trivial,⟨rfl,rfl,⟨rfl,rfl⟩,trivial⟩,⟨rfl,pR _⟩,⟨rfl,nP⟩,trivial⟩
  intro k hk;have hcl:(ow (ah xs y).2.1 x (xs.length+1) (bD xs y (ah xs x).2.2.1) k).length=xs.length+1+k:=by rw[oU,h1l]
  refine aI (fun q3=> ?_) (fun q3=> ?_)
  ·have hlt:k<((ah xs x).2.2.2.2.length-1):=by
    have q4:decide (((k+1:Nat):Int)≤((((ah xs x).2.2.2.2.length-1):Nat):Int))=true:=q3;simp only[qQ]at q4;omega
   have hadd:=uG (ow (ah xs y).2.1 x (xs.length+1) (bD xs y (ah xs x).2.2.1) k) us pk tr 3 (ah xs y).2.1 0 3 (by rw[hcl];omega) (by omega);rw[hcl]at hadd;refine Or.inr (eI _ (eI _ (aI hadd ?_)))
   have hnew:∀s:Int,0≤s→s<3→ak ((ow (ah xs y).2.1 x (xs.length+1) (bD xs y (ah xs x).2.2.1) k)++[bB 3 (ah xs y).2.1 0 [] 3]) (((xs.length+1+k:Nat):Int),s):=fun s h0 h1=>by
    have:=uJ (lv:=(ah xs y).2.1) (x:=x) (xs:=(bD xs y (ah xs x).2.2.1)) k h0 h1;rw[h1l]at this;exact this
   have hR:=vR (lv:=(ah xs y).2.1) (x:=x) h1R k;rw[h1l]at hR;have hAk:=uK (lv:=(ah xs y).2.1) (x:=x) h1A (h1 h0) h1R k fun i hi=>hxi i (by omega)
   rw[h1l]at hAk;refine Or.inl (eI _ (aI (bN _ 0) ?_));refine Or.inr (eI _ (eI _ (aI (FW ((ow (ah xs y).2.1 x (xs.length+1) (bD xs y (ah xs x).2.2.1) k)++[bB 3 (ah xs y).2.1 0 [] 3]) us pk tr (iN (xs.length+1) k) (((xs.length+1+k:Nat):Int),0) hR.app (hnew 0 (by decide) (by decide))) ?_)));refine aI (by kernel_rfl) ?_;refine Or.inl (eI _ (aI (bN x _) ?_));refine Or.inl (eI _ (aI (bN _ 1) ?_));refine Or.inr (eI _ (eI _ (aI (moveB (bL ((ow (ah xs y).2.1 x (xs.length+1) (bD xs y (ah xs x).2.2.1) k)++[bB 3 (ah xs y).2.1 0 [] 3]) (iN (xs.length+1) k) (((xs.length+1+k:Nat):Int),0)) us pk tr (x,((k+1:Nat):Int)) (((xs.length+1+k:Nat):Int),1) ((hAk.add (mq (h1 h0) k) _ _ _ _ _).link hR.app (hnew 0 (by decide) (by decide))) (mq (hxi k hlt) k).app.link (hnew 1 (by decide) (by decide)).link) ?_)))
   refine Or.inl (eI _ (aI (bN _ 2) ?_));refine aP (k+1) (by omega) ?_ ?_
   ·exact hd [(20000,85)] rfl (aI (aI (dB (by omega)) rfl) trivial) ⟨trivial,⟨⟨rfl,rfl⟩,⟨rfl,rfl⟩,⟨rfl,rfl⟩,rfl,rfl,trivial⟩,trivial,⟨⟨rfl,rfl⟩,⟨rfl,rfl⟩,trivial⟩,trivial,⟨rfl,rfl,⟨rfl,rfl⟩,trivial⟩,⟨rfl,pR _⟩,⟨rfl,nP⟩,trivial⟩
   ·show((ah xs x).2.2.2.2.length-1)-(k+1)<((ah xs x).2.2.2.2.length-1)-k;omega
  ·have hke:k=((ah xs x).2.2.2.2.length-1):=by
    have q4:decide (((k+1:Nat):Int)≤((((ah xs x).2.2.2.2.length-1):Nat):Int))=false:=q3;simp only[decide_eq_false_iff_not]at q4;omega
   have hR:=vR (lv:=(ah xs y).2.1) (x:=x) h1R k;rw[h1l]at hR;have hAk:=uK (lv:=(ah xs y).2.1) (x:=x) h1A (h1 h0) h1R k fun i hi=>hxi i (by omega)
   rw[h1l]at hAk;refine Or.inl (eI _ (aI (bN y 1) ?_));refine Or.inr (eI _ (eI _ (aI (moveB (ow (ah xs y).2.1 x (xs.length+1) (bD xs y (ah xs x).2.2.1) k) us pk tr (y,1) (iN (xs.length+1) k) hAk (mq (h1 hy1) k) hR) ?_)));refine aI (by kernel_rfl) ?_;refine fin [(10003,20000)] (aI rfl ?_);refine⟨trivial,⟨rfl,rfl,⟨rfl,rfl⟩,trivial⟩,⟨?_,pR _⟩,⟨rfl,nP⟩,trivial⟩;show dG (ow (ah xs y).2.1 x (xs.length+1) (bD xs y (ah xs x).2.2.1) k) (y,1) (iN (xs.length+1) k)=dD xs x y;unfold dD;rw[show((ah xs y).1==11)=false from q1,hke];rfl
theorem Ki:bH Tryz.prog 89=true:=by kernel_rfl
theorem Qr(x y:aj):aO Tryz.prog 89 [.rp aD x,.rp aD y] (.int .i64 (bK x y)):=by
 refine aO.intro (nt:=70) aH mixed Ki Tryz.func89 rfl rfl rfl rfl rfl ?_;refine aI (by kernel_rfl) ?_;refine aI (fun q1=> ?_) (fun q1=> ?_)
 ·refine⟨?_,rfl⟩;unfold bK;rw[show iw x y=true from q1];rfl
 refine aI (by kernel_rfl) ?_;refine aI (fun q2=> ?_) (fun q2=> ?_)
 ·refine⟨?_,rfl⟩;unfold bK;rw[show iw x y=false from q1,show mD x y=true from q2];rfl
 refine Or.inl (eI _ (aI (L6 _ _ _ _) ?_));refine aI (by kernel_rfl) ?_;refine⟨?_,rfl⟩;unfold bK;rw[show iw x y=false from q1,show mD x y=false from q2];rfl
theorem G5(xs:List aj)(us:List Value)(i j:Int):aA Tryz.prog 89 [.ep 10000 5 i 0,.ep 10000 5 j 0] [.row 10000 131 5 aD xs us] (.int .i64 (bK (ah xs i) (ah xs j))) [.row 10000 131 5 aD xs us]:=
 aA.oh aH [0,0] Ki (Qr (ah xs i) (ah xs j)) rfl
theorem Dp:bH Tryz.prog 118=true:=by kernel_rfl
theorem Lu(xs:List aj)(a b:Int)(ha:0≤a∧a<(xs.length:Nat))(hb:0≤b∧b<(xs.length:Nat)):aO Tryz.prog 118 [.rp aR xs,.int .i64 a,.int .i64 b] (.tup [.int .i64 (aC xs a b).1,.int .i64 (aC xs a b).2]):=by
 refine aO.intro (nt:=44) aH mixed Dp Tryz.func118 rfl rfl rfl rfl rfl ?_;refine aI ha ?_;refine aI hb ?_;refine Or.inl (eI _ (aI (QO _ _ _ _) ?_));refine aI (by kernel_rfl) ?_;refine aI (fun q1=> ?_) (fun q1=> ?_)
 ·have e:aC xs a b=(b,a):=by unfold aC;rw[show(aZ (ah xs a).1 (ah xs a).2.1 (ah xs b).1 (ah xs b).2.1==2)=true from q1];rfl
  rw[e];exact rfl
 ·have e:aC xs a b=(a,b):=by unfold aC;rw[show(aZ (ah xs a).1 (ah xs a).2.1 (ah xs b).1 (ah xs b).2.1==2)=false from q1];rfl
  rw[e];exact rfl
theorem maxS(a b:Int):aO Tryz.prog 91 [.int .i64 a,.int .i64 b] (.int .i64 (yx a b)):=by
 refine aO.intro (nt:=10) aH mixed (by kernel_rfl) Tryz.func91 rfl rfl rfl rfl rfl ?_;refine aI (fun q1=> ?_) (fun q1=> ?_)
 ·refine⟨?_,rfl⟩;unfold yx;rw[show decide (b<a)=true from q1];rfl
 ·refine⟨?_,rfl⟩;unfold yx;rw[show decide (b<a)=false from q1];rfl
theorem YJ(t:List aj)(hl:t.length≤2000000):aO Tryz.prog 176 [.rp aR t] (.int .i64 (lu t t.length)):=by
 refine aO.intro (nt:=25) aH mixed (by kernel_rfl) Tryz.func176 rfl rfl rfl rfl rfl ?_;refine lp Nat (fun k=>[(4,.int .i64 (k:Nat)),(3,.int .i64 (lu t k))]) (fun _=>[]) (fun k=>t.length-k) (fun k=>k≤t.length) 0 (Nat.zero_le _) ?_ ?_
 ·exact hd [] rfl (aI (aI rfl rfl) (aI (aI rfl rfl) trivial)) trivial
 intro k hk;refine aI (fun q1=> ?_) (fun q1=> ?_)
 ·have hlt:k<t.length:=by simpa using q1
  refine aI (show 0≤((k:Nat):Int)∧((k:Nat):Int)<(t.length:Nat) by omega) ?_;refine Or.inl (eI _ (aI (maxS _ _) ?_));refine aP (k+1) hlt ?_ ?_
  ·exact hd [] rfl (aI (aI (dB (by omega)) rfl) (aI (aI rfl rfl) trivial)) trivial
  ·show t.length-(k+1)<t.length-k;omega
 ·have hge:t.length≤k:=by simpa using q1
  have hke:k=t.length:=by omega
  subst hke;exact⟨rfl,rfl⟩
theorem Ay:bH Tryz.prog 92=true:=by kernel_rfl
theorem J5(t:List aj)(hl:t.length≤1000000):aO Tryz.prog 92 [.rp aR t] (.int .i64 (bP t t.length:Nat)):=by
 refine aO.intro (nt:=26) aH mixed Ay Tryz.func92 rfl rfl rfl rfl rfl ?_;refine lp Nat (fun k=>[(4,.int .i64 (k:Nat)),(3,.int .i64 (bP t k:Nat))]) (fun _=>[]) (fun k=>t.length-k) (fun k=>k≤t.length) 0 (Nat.zero_le _) ?_ ?_
 ·exact hd [] rfl (aI (aI rfl rfl) (aI (aI rfl rfl) trivial)) trivial
 intro k hk;refine aI (fun q1=> ?_) (fun q1=> ?_)
 ·have hlt:k<t.length:=by simpa using q1
  have hle:=tV t k;refine aI (show 0≤((k:Nat):Int)∧((k:Nat):Int)<(t.length:Nat) by omega) ?_;refine aI (fun q2=> ?_) (fun q2=> ?_)
  ·refine aP (k+1) hlt ?_ ?_
   ·refine hd [] rfl (aI (aI (dB (by omega)) rfl) (aI (aI ?_ rfl) trivial)) trivial;show IntKind.i64.wrap ((bP t k:Nat)+1)=((bP t (k+1):Nat):Int);rw[dB (by omega)];rw[show bP t (k+1)=(bif (ah t (k:Nat)).1 !=0 then bP t k+1 else bP t k) from rfl,show((ah t (k:Nat)).1 !=0)=true from q2];rfl
   ·show t.length-(k+1)<t.length-k;omega
  ·refine aP (k+1) hlt ?_ ?_
   ·refine hd [] rfl (aI (aI (dB (by omega)) rfl) (aI (aI ?_ rfl) trivial)) trivial;show((bP t k:Nat):Int)=((bP t (k+1):Nat):Int);rw[show bP t (k+1)=(bif (ah t (k:Nat)).1 !=0 then bP t k+1 else bP t k) from rfl,show((ah t (k:Nat)).1 !=0)=false from q2];rfl
   ·show t.length-(k+1)<t.length-k;omega
 ·have hge:t.length≤k:=by simpa using q1
  have hke:k=t.length:=by omega
  subst hke;exact⟨rfl,rfl⟩
theorem tJ{p lo hi d:Int}(h:dX p lo hi=true):jP p lo hi d=(IntKind.i64.wrap (p+d),0):=by
 obtain⟨h1,h2⟩:=iU h;unfold jP;rw[show decide (p<lo)=false by simpa using h1,show decide (hi<p)=false by simpa using h2];rfl
theorem Q7{p lo hi d:Int}(h:dX p lo hi=false):jP p lo hi d=(0,2):=by
 rcases Ri h with h1|h1
 ·unfold jP;rw[show decide (p<lo)=true by simpa using h1];rfl
 ·unfold jP;rw[show decide (hi<p)=true by simpa using h1];cases decide (p<lo)<;>rfl
theorem zq(c p:Int):aO Tryz.prog 177 [.int .i64 c,.int .i64 p] (.tup [.int .i64 (dK c p).1,.int .i64 (dK c p).2]):=by
 have leafT:∀{lo hi d v:Int},dK c p=jP p lo hi d→(dX p lo hi=true→v=IntKind.i64.wrap (p+d))→∀q:(!(dX p lo hi))=false,(SV.tup [.int .i64 v,.int .i64 0]:SV)=.tup [.int .i64 (dK c p).1,.int .i64 (dK c p).2]:=fun {lo hi d v} e hv q=>by
  have h:dX p lo hi=true:=by simpa using q
  rw[e,tJ h,hv h]
 have leafF:∀{lo hi d:Int},dK c p=jP p lo hi d→∀q:(!(dX p lo hi))=true,(SV.tup [.int .i64 0,.int .i64 2]:SV)=.tup [.int .i64 (dK c p).1,.int .i64 (dK c p).2]:=fun {lo hi d} e q=>by
  have h:dX p lo hi=false:=by simpa using q
  rw[e,Q7 h]
 refine aO.intro (nt:=36) aH mixed (by kernel_rfl) Tryz.func177 rfl rfl rfl rfl rfl ?_;refine aI (fun q1=> ?_) (fun q1=> ?_)
 ·refine aI (fun _=> ?_) (fun h=>by rw[show(c==1)=true from q1]at h;cases h);refine Or.inl (eI _ (aI (H8 _ _ _) ?_));refine aI (fun q=> ?_) (fun q=> ?_)
  ·exact leafF (lo:=0) (hi:=0) (d:= -2) (by simp only[dK,q1,qG,qH]) q
  ·exact leafT (lo:=0) (hi:=0) (d:= -2) (by simp only[dK,q1,qG,qH]) (fun h=>by obtain⟨h1,h2⟩:=iU h;have e0:p=0:=(by omega);subst e0;rfl) q
 refine aI (fun q2=> ?_) (fun q2=> ?_)
 ·refine Or.inl (eI _ (aI (H8 _ _ _) ?_));refine aI (fun q=> ?_) (fun q=> ?_)
  ·exact leafF (lo:=0) (hi:=0) (d:= -2) (by simp only[dK,q1,q2,qG,qH]) q
  ·exact leafT (lo:=0) (hi:=0) (d:= -2) (by simp only[dK,q1,q2,qG,qH]) (fun h=>by obtain⟨h1,h2⟩:=iU h;have e0:p=0:=(by omega);subst e0;rfl) q
 refine aI (fun q3=> ?_) (fun q3=> ?_)
 ·refine Or.inl (eI _ (aI (H8 _ _ _) ?_));refine aI (fun q=> ?_) (fun q=> ?_)
  ·exact leafF (lo:=0) (hi:=3) (d:=0) (by simp only[dK,q1,q2,q3,qG,qH]) q
  ·exact leafT (lo:=0) (hi:=3) (d:=0) (by simp only[dK,q1,q2,q3,qG,qH]) (fun h=>by obtain⟨h1,h2⟩:=iU h;rw[qO _ (by omega)];omega) q
 refine aI (fun q4=> ?_) (fun q4=> ?_)
 ·refine Or.inl (eI _ (aI (H8 _ _ _) ?_));refine aI (fun q=> ?_) (fun q=> ?_)
  ·exact leafF (lo:=0) (hi:=3) (d:= -2) (by simp only[dK,q1,q2,q3,q4,qG,qH]) q
  ·exact leafT (lo:=0) (hi:=3) (d:= -2) (by simp only[dK,q1,q2,q3,q4,qG,qH]) (fun _=>rfl) q
 refine aI (fun q5=> ?_) (fun q5=> ?_)
 ·refine Or.inl (eI _ (aI (H8 _ _ _) ?_));refine aI (fun q=> ?_) (fun q=> ?_)
  ·exact leafF (lo:=0) (hi:=0) (d:= -1) (by simp only[dK,q1,q2,q3,q4,q5,qG,qH]) q
  ·exact leafT (lo:=0) (hi:=0) (d:= -1) (by simp only[dK,q1,q2,q3,q4,q5,qG,qH]) (fun h=>by obtain⟨h1,h2⟩:=iU h;have e0:p=0:=(by omega);subst e0;rfl) q
 refine aI (fun q6=> ?_) (fun q6=> ?_)
 ·refine Or.inl (eI _ (aI (H8 _ _ _) ?_));refine aI (fun q=> ?_) (fun q=> ?_)
  ·exact leafF (lo:=0) (hi:=3) (d:= -1) (by simp only[dK,q1,q2,q3,q4,q5,q6,qG,qH]) q
  ·exact leafT (lo:=0) (hi:=3) (d:= -1) (by simp only[dK,q1,q2,q3,q4,q5,q6,qG,qH]) (fun _=>rfl) q
 refine aI (fun q7=> ?_) (fun q7=> ?_)
 ·refine Or.inl (eI _ (aI (H8 _ _ _) ?_));refine aI (fun q=> ?_) (fun q=> ?_)
  ·exact leafF (lo:=2) (hi:=600) (d:= -2) (by simp only[dK,q1,q2,q3,q4,q5,q6,q7,qG,qH]) q
  ·exact leafT (lo:=2) (hi:=600) (d:= -2) (by simp only[dK,q1,q2,q3,q4,q5,q6,q7,qG,qH]) (fun _=>rfl) q
 ·have e:dK c p=(0,2):=by simp only[dK,q1,q2,q3,q4,q5,q6,q7,qG,qH]
  rw[e];exact rfl
theorem dupA(xs:List aj)(us:List Value)(x y:Int)(hA:aW xs)(h0:ak xs (0,0))(hl:xs.length≤900000)(hx1:ak xs (x,1))(hx2:ak xs (x,2))(hy:0≤y∧y<(xs.length:Nat))(hp:(ah xs y).2.2.2.2.length≤1000)(hdt:(ah xs y).2.2.2.1.length≤1000000)(hp0:0<(ah xs y).2.2.2.2.length):
  aA Tryz.prog 139 [.ptr 10000 0,.int .i64 x,.int .i64 y] (tA xs us) (.tup []) (TH 10002 (bI xs x y) us):=by
 have hx:0≤x∧x<(xs.length:Nat):=⟨hx1.1,hx1.2.1⟩;refine aA.intro (nt:=102) aH mixed RO Tryz.func139 rfl rfl rfl rfl rfl rfl ?_;refine aI hx ?_;refine aI hy ?_;refine Or.inr (eI _ (eI _ (aI (yE xs us y (by omega) (by omega)) ?_)));refine Or.inr (eI _ (eI _ (aI (GJ xs us (ah xs y).1 (ah xs y).2.1 (ah xs y).2.2.1 (ah xs y).2.2.2.2.length (ah xs y).2.2.2.1 (by omega) (by omega) (by omega)) ?_)));have hadd2:=GJ (xs++[lZ xs y]) us (ah xs y).1 (ah xs y).2.1 (ah xs y).2.2.1 (ah xs y).2.2.2.2.length (ah xs y).2.2.2.1 (by rw[qA,qJ];omega) (by omega) (by omega)
 rw[show(xs++[lZ xs y]).length=xs.length+1 by simp]at hadd2;refine Or.inr (eI _ (eI _ (aI hadd2 ?_)));have h2A:=vU (y:=y) hA h0
 have hFS:∀k,(aY (ah xs x).2.1 ((xs.length:Nat):Int) ((xs.length+1:Nat):Int) (dup2 xs y) k)=dJ x ((xs.length:Nat):Int) ((xs.length+1:Nat):Int) (dup2 xs y) k:=fun k=>by
  have h:=(jY (x:=x) (c:=((xs.length:Nat):Int)) (d:=((xs.length+1:Nat):Int)) (xs:=dup2 xs y) (by rw[gF];omega) k).1;have e:(ah (dup2 xs y) x).2.1=(ah xs x).2.1:=by unfold dup2;rw[qF,dA (by omega)]
  rw[e]at h;exact h
 have hcd:∀i:Nat,i≤((ah xs y).2.2.2.2.length-1)→ak (dup2 xs y) (((xs.length:Nat):Int),(i:Nat))∧ak (dup2 xs y) (((xs.length+1:Nat):Int),(i:Nat)):=fun i hi=>⟨qh (by omega) (by omega),qj (by omega) (by omega)⟩
 refine lp Nat (fun k=>[(11,.int .i64 ((k+1:Nat):Int))]) (fun k=>[.bV 10000 30 [.sl 20000],.row 20000 131 5 aD (aY (ah xs x).2.1 ((xs.length:Nat):Int) ((xs.length+1:Nat):Int) (dup2 xs y) k) us]) (fun k=>((ah xs y).2.2.2.2.length-1)-k) (fun k=>k≤((ah xs y).2.2.2.2.length-1)) 0 (Nat.zero_le _) ?_ ?_
 ·exact hd [(20000,53)] rfl (aI (aI rfl rfl) trivial) ⟨trivial,⟨rfl,trivial⟩,⟨rfl,pR _⟩,trivial⟩
 intro k hk;have hcl:(aY (ah xs x).2.1 ((xs.length:Nat):Int) ((xs.length+1:Nat):Int) (dup2 xs y) k).length=xs.length+2+k:=by rw[hFS,iM,gF]
 refine aI (fun q1=> ?_) (fun q1=> ?_)
 ·have q2:((k+1:Nat):Int)<((ah xs y).2.2.2.2.length:Nat):=by have q2:decide (((k+1:Nat):Int)<((ah xs y).2.2.2.2.length:Nat))=true:=q1;simpa using q2
  refine Or.inr (eI _ (eI _ (aI (uF (aY (ah xs x).2.1 ((xs.length:Nat):Int) ((xs.length+1:Nat):Int) (dup2 xs y) k) us 4 (ah xs x).2.1 0 3 (by rw[hcl];omega) (by omega)) ?_)));have hc:=hcd (k+1) (by omega);have hin:∀{p},ak (dup2 xs y) p→ak (aY (ah xs x).2.1 ((xs.length:Nat):Int) ((xs.length+1:Nat):Int) (dup2 xs y) k) p:=fun h=>by rw[hFS];exact bW h k
  refine Or.inl (eI _ (aI (bN _ 1) ?_));refine Or.inl (eI _ (aI (bN _ _) ?_));refine Or.inr (eI _ (eI _ (aI (FV ((aY (ah xs x).2.1 ((xs.length:Nat):Int) ((xs.length+1:Nat):Int) (dup2 xs y) k)++[bB 4 (ah xs x).2.1 0 [] 3]) us (((aY (ah xs x).2.1 ((xs.length:Nat):Int) ((xs.length+1:Nat):Int) (dup2 xs y) k).length:Nat),1) (((xs.length:Nat):Int),((k+1:Nat):Int)) (ak.new (by decide) (by decide)) (hin hc.1).app) ?_)));refine Or.inl (eI _ (aI (bN _ 2) ?_));refine Or.inl (eI _ (aI (bN _ _) ?_));refine Or.inr (eI _ (eI _ (aI (FV (bL ((aY (ah xs x).2.1 ((xs.length:Nat):Int) ((xs.length+1:Nat):Int) (dup2 xs y) k)++[bB 4 (ah xs x).2.1 0 [] 3]) (((aY (ah xs x).2.1 ((xs.length:Nat):Int) ((xs.length+1:Nat):Int) (dup2 xs y) k).length:Nat),1) (((xs.length:Nat):Int),((k+1:Nat):Int))) us (((aY (ah xs x).2.1 ((xs.length:Nat):Int) ((xs.length+1:Nat):Int) (dup2 xs y) k).length:Nat),2) (((xs.length+1:Nat):Int),((k+1:Nat):Int)) (ak.link (ak.new (by decide) (by decide))) (hin hc.2).app.link) ?_)))
  refine aP (k+1) (by omega) ?_ ?_
  ·exact hd [(20000,61)] rfl (aI (aI (dB (by omega)) rfl) trivial) ⟨trivial,⟨rfl,trivial⟩,⟨rfl,pR _⟩,trivial⟩
  ·show((ah xs y).2.2.2.2.length-1)-(k+1)<((ah xs y).2.2.2.2.length-1)-k;omega
 ·have q2:((ah xs y).2.2.2.2.length:Nat)≤((k+1:Nat):Int):=by have q2:decide (((k+1:Nat):Int)<((ah xs y).2.2.2.2.length:Nat))=false:=q1;simpa using q2
  have hke:k=((ah xs y).2.2.2.2.length-1):=by omega
  subst hke;have hd3:(aY (ah xs x).2.1 ((xs.length:Nat):Int) ((xs.length+1:Nat):Int) (dup2 xs y) ((ah xs y).2.2.2.2.length-1))=dup3 xs x y:=hFS _;have h3A:aW (dup3 xs x y):=lK h2A (mE h0) _ hcd;have h3:∀{p},ak xs p→ak (dup3 xs x y) p:=fun h=>bW (mE h) _
  have hc0:ak (dup3 xs x y) (((xs.length:Nat):Int),0):=bW (qh (by decide) (by omega)) _;have hd0:ak (dup3 xs x y) (((xs.length+1:Nat):Int),0):=bW (qj (by decide) (by omega)) _;have hm1:=moveA (dup3 xs x y) us (x,1) ((xs.length:Nat),0) h3A (h3 hx1) hc0;rw[←hd3]at hm1;refine Or.inl (eI _ (aI (bN x 1) ?_));refine Or.inl (eI _ (aI (bN _ 0) ?_));refine Or.inr (eI _ (eI _ (aI hm1 ?_)));have hm2:=moveA (dG (dup3 xs x y) (x,1) ((xs.length:Nat),0)) us (x,2) (((xs.length+1:Nat):Int),0) (h3A.move (h3 hx1) hc0) (h3 hx2).move hd0.move
  rw[←hd3]at hm2;refine Or.inl (eI _ (aI (bN x 2) ?_));refine Or.inl (eI _ (aI (bN _ 0) ?_));refine Or.inr (eI _ (eI _ (aI hm2 ?_)));have h4A:aW (kE xs x y):=(h3A.move (h3 hx1) hc0).move (h3 hx2).move hd0.move
  have hyi:∀i:Nat,i<((ah xs y).2.2.2.2.length-1)→ak (kE xs x y) (y,((i:Nat):Int)+1)∧ak (kE xs x y) (((xs.length+2+i:Nat):Int),0):=fun i hi=>by
   refine⟨(h3 ⟨hy.1,hy.2,by omega,?_⟩).move.move,?_⟩
   ·show((i:Nat):Int)+1<((ah xs y).2.2.2.2.length:Nat);omega
   ·have:=(ql (x:=x) (c:=((xs.length:Nat):Int)) (d:=((xs.length+1:Nat):Int)) (xs:=dup2 xs y) hi).move (p:=(x,1)) (q:=(((xs.length:Nat):Int),0));have:=this.move (p:=(x,2)) (q:=(((xs.length+1:Nat):Int),0));rw[gF]at this;exact this
  refine lp Nat (fun k=>[(13,.int .i64 ((k+1:Nat):Int))]) (fun k=>[.bV 10000 30 [.sl 20000],.row 20000 131 5 aD (dw y (xs.length+2) (kE xs x y) k) us]) (fun k=>((ah xs y).2.2.2.2.length-1)-k) (fun k=>k≤((ah xs y).2.2.2.2.length-1)) 0 (Nat.zero_le _) ?_ ?_
  ·refine hd [] rfl (aI (aI rfl rfl) trivial) ⟨trivial,⟨rfl,trivial⟩,⟨?_,pR _⟩,trivial⟩;show dG (dG (aY (ah xs x).2.1 ((xs.length:Nat):Int) ((xs.length+1:Nat):Int) (dup2 xs y) ((ah xs y).2.2.2.2.length-1)) (x,1) ((xs.length:Nat),0)) (x,2) (((xs.length+1:Nat):Int),0)=kE xs x y;rw[hd3];rfl
  intro k hk;refine aI (fun q1=> ?_) (fun q1=> ?_)
  ·have q2:((k+1:Nat):Int)<((ah xs y).2.2.2.2.length:Nat):=by have q2:decide (((k+1:Nat):Int)<((ah xs y).2.2.2.2.length:Nat))=true:=q1;simpa using q2
   have hyk:=hyi k (by omega);have hrp:=moveA (dw y (xs.length+2) (kE xs x y) k) us (y,((k:Nat):Int)+1) (((xs.length+2+k:Nat):Int),0) (kF h4A k fun i hi=>hyi i (by omega)) (eZ hyk.1 k) (eZ hyk.2 k);have e1:((k:Nat):Int)+1=((k+1:Nat):Int):=by omega
   have e2:((xs.length+2+k:Nat):Int)=IntKind.i64.wrap (((xs.length+1:Nat):Int)+((k+1:Nat):Int)):=by rw[qO _ (by omega)];omega
   rw[e1,e2]at hrp;refine Or.inl (eI _ (aI (bN y _) ?_));refine Or.inl (eI _ (aI (bN _ 0) ?_));refine Or.inr (eI _ (eI _ (aI hrp ?_)));refine aP (k+1) (by omega) ?_ ?_
   ·refine hd [] rfl (aI (aI (dB (by omega)) rfl) trivial) ⟨trivial,⟨rfl,trivial⟩,⟨?_,pR _⟩,trivial⟩;show dG (dw y (xs.length+2) (kE xs x y) k) (y,((k+1:Nat):Int)) (IntKind.i64.wrap (((xs.length+1:Nat):Int)+((k+1:Nat):Int)),0)=dw y (xs.length+2) (kE xs x y) (k+1);rw[←e2,←e1];rfl
   ·show((ah xs y).2.2.2.2.length-1)-(k+1)<((ah xs y).2.2.2.2.length-1)-k;omega
  ·have q2:((ah xs y).2.2.2.2.length:Nat)≤((k+1:Nat):Int):=by have q2:decide (((k+1:Nat):Int)<((ah xs y).2.2.2.2.length:Nat))=false:=q1;simpa using q2
   have hke:k=((ah xs y).2.2.2.2.length-1):=by omega
   refine fin [(10002,20000)] (aI rfl ?_);refine⟨trivial,⟨rfl,trivial⟩,⟨?_,pR _⟩,trivial⟩;show dw y (xs.length+2) (kE xs x y) k=bI xs x y;rw[hke];rfl
theorem YG(xs:List aj)(us:List Value)(pk:Int)(tr:List Int)(x y:Int)(hA:aW xs)(h0:ak xs (0,0))(hl:xs.length≤900000)(hx1:ak xs (x,1))(hx2:ak xs (x,2))(hy:0≤y∧y<(xs.length:Nat))(hp:(ah xs y).2.2.2.2.length≤1000)(hdt:(ah xs y).2.2.2.1.length≤1000000)(hp0:0<(ah xs y).2.2.2.2.length):
  aA Tryz.prog 139 [.ptr 10000 0,.int .i64 x,.int .i64 y] (tB xs us pk tr) (.tup []) (PS 10003 (bI xs x y) us pk tr):=by
 have hx:0≤x∧x<(xs.length:Nat):=⟨hx1.1,hx1.2.1⟩;refine aA.intro (nt:=102) aH mixed RO Tryz.func139 rfl rfl rfl rfl rfl rfl ?_;refine aI hx ?_;refine aI hy ?_;refine Or.inr (eI _ (eI _ (aI (yE xs us y (by omega) (by omega)) ?_)));refine Or.inr (eI _ (eI _ (aI (GK xs us pk tr (ah xs y).1 (ah xs y).2.1 (ah xs y).2.2.1 (ah xs y).2.2.2.2.length (ah xs y).2.2.2.1 (by omega) (by omega) (by omega)) ?_)));have hadd2:=GK (xs++[lZ xs y]) us pk tr (ah xs y).1 (ah xs y).2.1 (ah xs y).2.2.1 (ah xs y).2.2.2.2.length (ah xs y).2.2.2.1 (by rw[qA,qJ];omega) (by omega) (by omega)
 rw[show(xs++[lZ xs y]).length=xs.length+1 by simp]at hadd2;refine Or.inr (eI _ (eI _ (aI hadd2 ?_)));have h2A:=vU (y:=y) hA h0
 have hFS:∀k,(aY (ah xs x).2.1 ((xs.length:Nat):Int) ((xs.length+1:Nat):Int) (dup2 xs y) k)=dJ x ((xs.length:Nat):Int) ((xs.length+1:Nat):Int) (dup2 xs y) k:=fun k=>by
  have h:=(jY (x:=x) (c:=((xs.length:Nat):Int)) (d:=((xs.length+1:Nat):Int)) (xs:=dup2 xs y) (by rw[gF];omega) k).1;have e:(ah (dup2 xs y) x).2.1=(ah xs x).2.1:=by unfold dup2;rw[qF,dA (by omega)]
  rw[e]at h;exact h
 have hcd:∀i:Nat,i≤((ah xs y).2.2.2.2.length-1)→ak (dup2 xs y) (((xs.length:Nat):Int),(i:Nat))∧ak (dup2 xs y) (((xs.length+1:Nat):Int),(i:Nat)):=fun i hi=>⟨qh (by omega) (by omega),qj (by omega) (by omega)⟩
 refine lp Nat (fun k=>[(11,.int .i64 ((k+1:Nat):Int))]) (fun k=>[.bV 10000 66 [.sl 20000,.sl 10002,.int .i64 pk],.row 20000 131 5 aD (aY (ah xs x).2.1 ((xs.length:Nat):Int) ((xs.length+1:Nat):Int) (dup2 xs y) k) us,.row 10002 2 1 (.int .i64) tr []]) (fun k=>((ah xs y).2.2.2.2.length-1)-k) (fun k=>k≤((ah xs y).2.2.2.2.length-1)) 0 (Nat.zero_le _) ?_ ?_
 ·exact hd [(20000,53)] rfl (aI (aI rfl rfl) trivial) ⟨trivial,⟨rfl,rfl,⟨rfl,rfl⟩,trivial⟩,⟨rfl,pR _⟩,⟨rfl,nP⟩,trivial⟩
 intro k hk;have hcl:(aY (ah xs x).2.1 ((xs.length:Nat):Int) ((xs.length+1:Nat):Int) (dup2 xs y) k).length=xs.length+2+k:=by rw[hFS,iM,gF]
 refine aI (fun q1=> ?_) (fun q1=> ?_)
 ·have q2:((k+1:Nat):Int)<((ah xs y).2.2.2.2.length:Nat):=by have q2:decide (((k+1:Nat):Int)<((ah xs y).2.2.2.2.length:Nat))=true:=q1;simpa using q2
  refine Or.inr (eI _ (eI _ (aI (uG (aY (ah xs x).2.1 ((xs.length:Nat):Int) ((xs.length+1:Nat):Int) (dup2 xs y) k) us pk tr 4 (ah xs x).2.1 0 3 (by rw[hcl];omega) (by omega)) ?_)));have hc:=hcd (k+1) (by omega);have hin:∀{p},ak (dup2 xs y) p→ak (aY (ah xs x).2.1 ((xs.length:Nat):Int) ((xs.length+1:Nat):Int) (dup2 xs y) k) p:=fun h=>by rw[hFS];exact bW h k
  refine Or.inl (eI _ (aI (bN _ 1) ?_));refine Or.inl (eI _ (aI (bN _ _) ?_));refine Or.inr (eI _ (eI _ (aI (FW ((aY (ah xs x).2.1 ((xs.length:Nat):Int) ((xs.length+1:Nat):Int) (dup2 xs y) k)++[bB 4 (ah xs x).2.1 0 [] 3]) us pk tr (((aY (ah xs x).2.1 ((xs.length:Nat):Int) ((xs.length+1:Nat):Int) (dup2 xs y) k).length:Nat),1) (((xs.length:Nat):Int),((k+1:Nat):Int)) (ak.new (by decide) (by decide)) (hin hc.1).app) ?_)));refine Or.inl (eI _ (aI (bN _ 2) ?_));refine Or.inl (eI _ (aI (bN _ _) ?_));refine Or.inr (eI _ (eI _ (aI (FW (bL ((aY (ah xs x).2.1 ((xs.length:Nat):Int) ((xs.length+1:Nat):Int) (dup2 xs y) k)++[bB 4 (ah xs x).2.1 0 [] 3]) (((aY (ah xs x).2.1 ((xs.length:Nat):Int) ((xs.length+1:Nat):Int) (dup2 xs y) k).length:Nat),1) (((xs.length:Nat):Int),((k+1:Nat):Int))) us pk tr (((aY (ah xs x).2.1 ((xs.length:Nat):Int) ((xs.length+1:Nat):Int) (dup2 xs y) k).length:Nat),2) (((xs.length+1:Nat):Int),((k+1:Nat):Int)) (ak.link (ak.new (by decide) (by decide))) (hin hc.2).app.link) ?_)))
  refine aP (k+1) (by omega) ?_ ?_
  ·exact hd [(20000,61)] rfl (aI (aI (dB (by omega)) rfl) trivial) ⟨trivial,⟨rfl,rfl,⟨rfl,rfl⟩,trivial⟩,⟨rfl,pR _⟩,⟨rfl,nP⟩,trivial⟩
  ·show((ah xs y).2.2.2.2.length-1)-(k+1)<((ah xs y).2.2.2.2.length-1)-k;omega
 ·have q2:((ah xs y).2.2.2.2.length:Nat)≤((k+1:Nat):Int):=by have q2:decide (((k+1:Nat):Int)<((ah xs y).2.2.2.2.length:Nat))=false:=q1;simpa using q2
  have hke:k=((ah xs y).2.2.2.2.length-1):=by omega
  subst hke;have hd3:(aY (ah xs x).2.1 ((xs.length:Nat):Int) ((xs.length+1:Nat):Int) (dup2 xs y) ((ah xs y).2.2.2.2.length-1))=dup3 xs x y:=hFS _;have h3A:aW (dup3 xs x y):=lK h2A (mE h0) _ hcd;have h3:∀{p},ak xs p→ak (dup3 xs x y) p:=fun h=>bW (mE h) _
  have hc0:ak (dup3 xs x y) (((xs.length:Nat):Int),0):=bW (qh (by decide) (by omega)) _;have hd0:ak (dup3 xs x y) (((xs.length+1:Nat):Int),0):=bW (qj (by decide) (by omega)) _;have hm1:=moveB (dup3 xs x y) us pk tr (x,1) ((xs.length:Nat),0) h3A (h3 hx1) hc0;rw[←hd3]at hm1;refine Or.inl (eI _ (aI (bN x 1) ?_));refine Or.inl (eI _ (aI (bN _ 0) ?_));refine Or.inr (eI _ (eI _ (aI hm1 ?_)));have hm2:=moveB (dG (dup3 xs x y) (x,1) ((xs.length:Nat),0)) us pk tr (x,2) (((xs.length+1:Nat):Int),0) (h3A.move (h3 hx1) hc0) (h3 hx2).move hd0.move
  rw[←hd3]at hm2;refine Or.inl (eI _ (aI (bN x 2) ?_));refine Or.inl (eI _ (aI (bN _ 0) ?_));refine Or.inr (eI _ (eI _ (aI hm2 ?_)));have h4A:aW (kE xs x y):=(h3A.move (h3 hx1) hc0).move (h3 hx2).move hd0.move
  have hyi:∀i:Nat,i<((ah xs y).2.2.2.2.length-1)→ak (kE xs x y) (y,((i:Nat):Int)+1)∧ak (kE xs x y) (((xs.length+2+i:Nat):Int),0):=fun i hi=>by
   refine⟨(h3 ⟨hy.1,hy.2,by omega,?_⟩).move.move,?_⟩
   ·show((i:Nat):Int)+1<((ah xs y).2.2.2.2.length:Nat);omega
   ·have:=(ql (x:=x) (c:=((xs.length:Nat):Int)) (d:=((xs.length+1:Nat):Int)) (xs:=dup2 xs y) hi).move (p:=(x,1)) (q:=(((xs.length:Nat):Int),0));have:=this.move (p:=(x,2)) (q:=(((xs.length+1:Nat):Int),0));rw[gF]at this;exact this
  refine lp Nat (fun k=>[(13,.int .i64 ((k+1:Nat):Int))]) (fun k=>[.bV 10000 66 [.sl 20000,.sl 10002,.int .i64 pk],.row 20000 131 5 aD (dw y (xs.length+2) (kE xs x y) k) us,.row 10002 2 1 (.int .i64) tr []]) (fun k=>((ah xs y).2.2.2.2.length-1)-k) (fun k=>k≤((ah xs y).2.2.2.2.length-1)) 0 (Nat.zero_le _) ?_ ?_
  ·refine hd [] rfl (aI (aI rfl rfl) trivial) ⟨trivial,⟨rfl,rfl,⟨rfl,rfl⟩,trivial⟩,⟨?_,pR _⟩,⟨rfl,nP⟩,trivial⟩;show dG (dG (aY (ah xs x).2.1 ((xs.length:Nat):Int) ((xs.length+1:Nat):Int) (dup2 xs y) ((ah xs y).2.2.2.2.length-1)) (x,1) ((xs.length:Nat),0)) (x,2) (((xs.length+1:Nat):Int),0)=kE xs x y;rw[hd3];rfl
  intro k hk;refine aI (fun q1=> ?_) (fun q1=> ?_)
  ·have q2:((k+1:Nat):Int)<((ah xs y).2.2.2.2.length:Nat):=by have q2:decide (((k+1:Nat):Int)<((ah xs y).2.2.2.2.length:Nat))=true:=q1;simpa using q2
   have hyk:=hyi k (by omega);have hrp:=moveB (dw y (xs.length+2) (kE xs x y) k) us pk tr (y,((k:Nat):Int)+1) (((xs.length+2+k:Nat):Int),0) (kF h4A k fun i hi=>hyi i (by omega)) (eZ hyk.1 k) (eZ hyk.2 k);have e1:((k:Nat):Int)+1=((k+1:Nat):Int):=by omega
   have e2:((xs.length+2+k:Nat):Int)=IntKind.i64.wrap (((xs.length+1:Nat):Int)+((k+1:Nat):Int)):=by rw[qO _ (by omega)];omega
   rw[e1,e2]at hrp;refine Or.inl (eI _ (aI (bN y _) ?_));refine Or.inl (eI _ (aI (bN _ 0) ?_));refine Or.inr (eI _ (eI _ (aI hrp ?_)));refine aP (k+1) (by omega) ?_ ?_
   ·refine hd [] rfl (aI (aI (dB (by omega)) rfl) trivial) ⟨trivial,⟨rfl,rfl,⟨rfl,rfl⟩,trivial⟩,⟨?_,pR _⟩,⟨rfl,nP⟩,trivial⟩;show dG (dw y (xs.length+2) (kE xs x y) k) (y,((k+1:Nat):Int)) (IntKind.i64.wrap (((xs.length+1:Nat):Int)+((k+1:Nat):Int)),0)=dw y (xs.length+2) (kE xs x y) (k+1);rw[←e2,←e1];rfl
   ·show((ah xs y).2.2.2.2.length-1)-(k+1)<((ah xs y).2.2.2.2.length-1)-k;omega
  ·have q2:((ah xs y).2.2.2.2.length:Nat)≤((k+1:Nat):Int):=by have q2:decide (((k+1:Nat):Int)<((ah xs y).2.2.2.2.length:Nat))=false:=q1;simpa using q2
   have hke:k=((ah xs y).2.2.2.2.length-1):=by omega
   refine fin [(10003,20000)] (aI rfl ?_);refine⟨trivial,⟨rfl,rfl,⟨rfl,rfl⟩,trivial⟩,⟨?_,pR _⟩,⟨rfl,nP⟩,trivial⟩;show dw y (xs.length+2) (kE xs x y) k=bI xs x y;rw[hke];rfl
theorem RQ:bH Tryz.prog 144=true:=by kernel_rfl
theorem expA(t:List aj)(xs:List aj)(us:List Value)(x y:Int)(lv:Int)(hlv0:(ah xs x).2.1=lv)(hx:0≤x∧x<(xs.length:Nat))(hl:xs.length≤900000)(hs:bE t)(ht:1≤t.length)(htl:t.length≤1000)(ht0:0<(ah t 0).2.2.2.2.length)(hlv1:0≤lv∧lv≤8)(hlt8:∀i:Nat,0≤(ah t i).2.1∧(ah t i).2.1≤8)
  (hpt:∀i j:Nat,sV (elt (dflt aM) (ah t (i:Nat)).2.2.2.2 (j:Nat)).1) (hy:ak xs (y,0)) (htop:ak (xs++jq lv ((xs.length:Nat)-1:Int) t (t.length-1)) (((xs.length:Nat)-1:Int)+(au t (0,0)).1,(au t (0,0)).2)):
  aA Tryz.prog 144 [.rp aR t,.ptr 10000 0,.int .i64 x,.int .i64 y] (tA xs us) (.tup []) (TH 10002 (eO t lv xs y) us):=by
 subst hlv0;refine aA.intro (nt:=99) aH mixed RQ Tryz.func144 rfl rfl rfl rfl rfl rfl ?_;refine aI hx ?_;have hwb:IntKind.i64.wrap ((xs.length:Nat)-1)=((xs.length:Nat)-1:Int):=qO _ (by omega);generalize hlve:(ah xs x).2.1=lv at*;refine lp Nat (fun k=>[(10,.int .i64 ((k+1:Nat):Int)),(8,.int .i64 lv),(9,.int .i64 ((xs.length:Nat)-1:Int))]) (fun k=>[.bV 10000 30 [.sl 20000],.row 20000 131 5 aD (xs++jq lv ((xs.length:Nat)-1:Int) t k) us]) (fun k=>t.length-1-k) (fun k=>k+1≤t.length) 0 ht ?_ ?_
 ·refine hd [(20000,10001)] rfl (aI (aI rfl rfl) (aI (aI hlve rfl) (aI (aI hwb rfl) trivial))) ⟨trivial,⟨rfl,trivial⟩,⟨?_,pR _⟩,trivial⟩;show xs=(xs++jq lv ((xs.length:Nat)-1:Int) t 0);unfold jq;simp
 intro k hk;refine aI (fun q1=> ?_) (fun q1=> ?_)
 ·have hlt:k+1<t.length:=by
   have q2:decide (((k+1:Nat):Int)<(t.length:Nat))=true:=q1;have q3:((k+1:Nat):Int)<(t.length:Nat):=by simpa using q2
   omega
  refine aI (show 0≤((k+1:Nat):Int)∧((k+1:Nat):Int)<(t.length:Nat) by omega) ?_;refine Or.inr (eI _ (eI _ (aI (IB (ah t ((k+1:Nat):Int)) (hs.2 (k+1)).1 (hs.2 (k+1)).2) ?_)));refine Or.inl (eI _ (aI (BR _) ?_));have hl8:=hlt8 (k+1);refine aI (fun q2=> ?_) (fun q2=> ?_)
  ·have hlev:bR (ah t ((k+1:Nat):Int)).1=true:=q2;refine lp Nat (fun j=>[(12,.int .i64 (j:Nat))]) (fun j=>[.bV 11 131 [.int .i64 (ah t ((k+1:Nat):Int)).1,.int .i64 (IntKind.i64.wrap ((ah t ((k+1:Nat):Int)).2.1+lv)),.int .i64 (ah t ((k+1:Nat):Int)).2.2.1,.sl 43,.sl 21001],.bV 10000 30 [.sl 21000],.row 21000 131 5 aD (xs++jq lv ((xs.length:Nat)-1:Int) t k) us,.row 43 2 1 (.int .i64) (ah t ((k+1:Nat):Int)).2.2.2.1 [],.row 21001 102 2 aM (dV ((xs.length:Nat)-1:Int) (ah t ((k+1:Nat):Int)).2.2.2.2 j) []]) (fun j=>(ah t ((k+1:Nat):Int)).2.2.2.2.length-j) (fun j=>j≤(ah t ((k+1:Nat):Int)).2.2.2.2.length) 0 (Nat.zero_le _) ?_ ?_
   ·exact hd [(21000,20000),(21001,1000043)] rfl (aI (aI rfl rfl) trivial) ⟨trivial,⟨⟨rfl,rfl⟩,⟨rfl,rfl⟩,⟨rfl,rfl⟩,rfl,rfl,trivial⟩,trivial,⟨rfl,trivial⟩,⟨rfl,pR _⟩,⟨rfl,nP⟩,⟨rfl,nP⟩,trivial⟩
   intro j hj;refine aI (fun q3=> ?_) (fun q3=> ?_)
   ·have hlt2:j<(ah t ((k+1:Nat):Int)).2.2.2.2.length:=by
     have q4:decide (((j:Nat):Int)<((dV ((xs.length:Nat)-1:Int) (ah t ((k+1:Nat):Int)).2.2.2.2 j).length:Nat))=true:=q3;rw[iK]at q4;simpa using q4
    have hpv:sV (elt (dflt aM) (ah t ((k+1:Nat):Int)).2.2.2.2 (j:Nat)).1:=hpt (k+1) j;unfold sV at hpv;have hps:(ah t ((k+1:Nat):Int)).2.2.2.2.length≤1048576:=(hs.2 (k+1)).2;have hat:elt (dflt aM) (dV ((xs.length:Nat)-1:Int) (ah t ((k+1:Nat):Int)).2.2.2.2 j) (j:Nat)=elt (dflt aM) (ah t ((k+1:Nat):Int)).2.2.2.2 (j:Nat):=tY hlt2;have hw:IntKind.i64.wrap ((elt (dflt aM) (ah t ((k+1:Nat):Int)).2.2.2.2 (j:Nat)).1+((xs.length:Nat)-1:Int))=(elt (dflt aM) (ah t ((k+1:Nat):Int)).2.2.2.2 (j:Nat)).1+((xs.length:Nat)-1:Int):=qO _ (by omega)
    have hbnd:0≤((j:Nat):Int)∧((j:Nat):Int)<((dV ((xs.length:Nat)-1:Int) (ah t ((k+1:Nat):Int)).2.2.2.2 j).length:Nat):=by rw[iK];omega
    refine aI hbnd ?_;refine aI hbnd ?_;refine aP (j+1) hlt2 ?_ ?_
    ·refine hd [] rfl (aI (aI (dB (by omega)) rfl) trivial) ⟨trivial,⟨⟨rfl,rfl⟩,⟨rfl,rfl⟩,⟨rfl,rfl⟩,rfl,rfl,trivial⟩,trivial,⟨rfl,trivial⟩,⟨rfl,pR _⟩,⟨rfl,nP⟩,⟨?_,nP⟩,trivial⟩;show(dV ((xs.length:Nat)-1:Int) (ah t ((k+1:Nat):Int)).2.2.2.2 j).set j (IntKind.i64.wrap ((elt (dflt aM) (dV ((xs.length:Nat)-1:Int) (ah t ((k+1:Nat):Int)).2.2.2.2 j) (j:Nat)).1+((xs.length:Nat)-1:Int)),(elt (dflt aM) (dV ((xs.length:Nat)-1:Int) (ah t ((k+1:Nat):Int)).2.2.2.2 j) (j:Nat)).2)=dV ((xs.length:Nat)-1:Int) (ah t ((k+1:Nat):Int)).2.2.2.2 (j+1)
     rw[rA hlt2,hat,hw]
    ·show(ah t ((k+1:Nat):Int)).2.2.2.2.length-(j+1)<(ah t ((k+1:Nat):Int)).2.2.2.2.length-j;omega
   have hje:j=(ah t ((k+1:Nat):Int)).2.2.2.2.length:=by
    have q4:decide (((j:Nat):Int)<((dV ((xs.length:Nat)-1:Int) (ah t ((k+1:Nat):Int)).2.2.2.2 j).length:Nat))=false:=q3;rw[iK]at q4;have q5:(ah t ((k+1:Nat):Int)).2.2.2.2.length≤j:=by simpa using q4
    omega
   refine aI (by show(xs++jq lv ((xs.length:Nat)-1:Int) t k).length+1≤_;rw[qA,zk (by omega)];have:=hs.1;omega) ?_;refine aI (by kernel_rfl) ?_;refine aP (k+1) (by show k+1+1≤t.length;omega) ?_ ?_
   ·refine hd [(20000,76)] rfl (aI (aI (dB (by have:=hs.1;omega)) rfl) (aI (aI rfl rfl) (aI (aI rfl rfl) trivial))) ⟨trivial,⟨rfl,trivial⟩,⟨?_,pR _⟩,trivial⟩;show(xs++jq lv ((xs.length:Nat)-1:Int) t k)++[((ah t ((k+1:Nat):Int)).1,(IntKind.i64.wrap ((ah t ((k+1:Nat):Int)).2.1+lv)),(ah t ((k+1:Nat):Int)).2.2.1,(ah t ((k+1:Nat):Int)).2.2.2.1,dV ((xs.length:Nat)-1:Int) (ah t ((k+1:Nat):Int)).2.2.2.2 j)]=(xs++jq lv ((xs.length:Nat)-1:Int) t (k+1));rw[wU hlt,hje,tX,qF]
    congr 2
    unfold cZ iR;rw[show bR (ah t ((k+1:Nat):Int)).kind=true from hlev,qO _ (by omega)];rfl
   ·show t.length-1-(k+1)<t.length-1-k;omega
  ·have hlev:bR (ah t ((k+1:Nat):Int)).1=false:=q2;refine lp Nat (fun j=>[(12,.int .i64 (j:Nat))]) (fun j=>[.bV 11 131 [.int .i64 (ah t ((k+1:Nat):Int)).1,.int .i64 (ah t ((k+1:Nat):Int)).2.1,.int .i64 (ah t ((k+1:Nat):Int)).2.2.1,.sl 43,.sl 21001],.bV 10000 30 [.sl 21000],.row 21000 131 5 aD (xs++jq lv ((xs.length:Nat)-1:Int) t k) us,.row 43 2 1 (.int .i64) (ah t ((k+1:Nat):Int)).2.2.2.1 [],.row 21001 102 2 aM (dV ((xs.length:Nat)-1:Int) (ah t ((k+1:Nat):Int)).2.2.2.2 j) []]) (fun j=>(ah t ((k+1:Nat):Int)).2.2.2.2.length-j) (fun j=>j≤(ah t ((k+1:Nat):Int)).2.2.2.2.length) 0 (Nat.zero_le _) ?_ ?_
   ·exact hd [(21000,20000),(21001,1000043)] rfl (aI (aI rfl rfl) trivial) ⟨trivial,⟨⟨rfl,rfl⟩,⟨rfl,rfl⟩,⟨rfl,rfl⟩,rfl,rfl,trivial⟩,trivial,⟨rfl,trivial⟩,⟨rfl,pR _⟩,⟨rfl,nP⟩,⟨rfl,nP⟩,trivial⟩
   intro j hj;refine aI (fun q3=> ?_) (fun q3=> ?_)
   ·have hlt2:j<(ah t ((k+1:Nat):Int)).2.2.2.2.length:=by
     have q4:decide (((j:Nat):Int)<((dV ((xs.length:Nat)-1:Int) (ah t ((k+1:Nat):Int)).2.2.2.2 j).length:Nat))=true:=q3;rw[iK]at q4;simpa using q4
    have hpv:sV (elt (dflt aM) (ah t ((k+1:Nat):Int)).2.2.2.2 (j:Nat)).1:=hpt (k+1) j;unfold sV at hpv;have hps:(ah t ((k+1:Nat):Int)).2.2.2.2.length≤1048576:=(hs.2 (k+1)).2;have hat:elt (dflt aM) (dV ((xs.length:Nat)-1:Int) (ah t ((k+1:Nat):Int)).2.2.2.2 j) (j:Nat)=elt (dflt aM) (ah t ((k+1:Nat):Int)).2.2.2.2 (j:Nat):=tY hlt2;have hw:IntKind.i64.wrap ((elt (dflt aM) (ah t ((k+1:Nat):Int)).2.2.2.2 (j:Nat)).1+((xs.length:Nat)-1:Int))=(elt (dflt aM) (ah t ((k+1:Nat):Int)).2.2.2.2 (j:Nat)).1+((xs.length:Nat)-1:Int):=qO _ (by omega)
    have hbnd:0≤((j:Nat):Int)∧((j:Nat):Int)<((dV ((xs.length:Nat)-1:Int) (ah t ((k+1:Nat):Int)).2.2.2.2 j).length:Nat):=by rw[iK];omega
    refine aI hbnd ?_;refine aI hbnd ?_;refine aP (j+1) hlt2 ?_ ?_
    ·refine hd [] rfl (aI (aI (dB (by omega)) rfl) trivial) ⟨trivial,⟨⟨rfl,rfl⟩,⟨rfl,rfl⟩,⟨rfl,rfl⟩,rfl,rfl,trivial⟩,trivial,⟨rfl,trivial⟩,⟨rfl,pR _⟩,⟨rfl,nP⟩,⟨?_,nP⟩,trivial⟩;show(dV ((xs.length:Nat)-1:Int) (ah t ((k+1:Nat):Int)).2.2.2.2 j).set j (IntKind.i64.wrap ((elt (dflt aM) (dV ((xs.length:Nat)-1:Int) (ah t ((k+1:Nat):Int)).2.2.2.2 j) (j:Nat)).1+((xs.length:Nat)-1:Int)),(elt (dflt aM) (dV ((xs.length:Nat)-1:Int) (ah t ((k+1:Nat):Int)).2.2.2.2 j) (j:Nat)).2)=dV ((xs.length:Nat)-1:Int) (ah t ((k+1:Nat):Int)).2.2.2.2 (j+1)
     rw[rA hlt2,hat,hw]
    ·show(ah t ((k+1:Nat):Int)).2.2.2.2.length-(j+1)<(ah t ((k+1:Nat):Int)).2.2.2.2.length-j;omega
   have hje:j=(ah t ((k+1:Nat):Int)).2.2.2.2.length:=by
    have q4:decide (((j:Nat):Int)<((dV ((xs.length:Nat)-1:Int) (ah t ((k+1:Nat):Int)).2.2.2.2 j).length:Nat))=false:=q3;rw[iK]at q4;have q5:(ah t ((k+1:Nat):Int)).2.2.2.2.length≤j:=by simpa using q4
    omega
   refine aI (by show(xs++jq lv ((xs.length:Nat)-1:Int) t k).length+1≤_;rw[qA,zk (by omega)];have:=hs.1;omega) ?_;refine aI (by kernel_rfl) ?_;refine aP (k+1) (by show k+1+1≤t.length;omega) ?_ ?_
   ·refine hd [(20000,76)] rfl (aI (aI (dB (by have:=hs.1;omega)) rfl) (aI (aI rfl rfl) (aI (aI rfl rfl) trivial))) ⟨trivial,⟨rfl,trivial⟩,⟨?_,pR _⟩,trivial⟩;show(xs++jq lv ((xs.length:Nat)-1:Int) t k)++[((ah t ((k+1:Nat):Int)).1,(ah t ((k+1:Nat):Int)).2.1,(ah t ((k+1:Nat):Int)).2.2.1,(ah t ((k+1:Nat):Int)).2.2.2.1,dV ((xs.length:Nat)-1:Int) (ah t ((k+1:Nat):Int)).2.2.2.2 j)]=(xs++jq lv ((xs.length:Nat)-1:Int) t (k+1));rw[wU hlt,hje,tX,qF]
    congr 2
    unfold cZ iR;rw[show bR (ah t ((k+1:Nat):Int)).kind=false from hlev];rfl
   ·show t.length-1-(k+1)<t.length-1-k;omega
 ·have hke:k=t.length-1:=by
   have q2:decide (((k+1:Nat):Int)<(t.length:Nat))=false:=q1;have q3:(t.length:Nat)≤((k+1:Nat):Int):=by simpa using q2
   omega
  subst hke;refine aI (show(0:Int)≤0∧(0:Int)<(t.length:Nat) by omega) ?_;refine aI (show(0:Int)≤0∧(0:Int)<((ah t 0).2.2.2.2.length:Nat) by omega) ?_;have hp0:sV (au t (0,0)).1:=hpt 0 0;unfold sV at hp0;have hw:IntKind.i64.wrap (((xs.length:Nat)-1:Int)+(au t (0,0)).1)=((xs.length:Nat)-1:Int)+(au t (0,0)).1:=qO _ (by omega);have hlk:=FV (xs++jq lv ((xs.length:Nat)-1:Int) t (t.length-1)) us (((xs.length:Nat)-1:Int)+(au t (0,0)).1,(au t (0,0)).2) (y,0) htop hy.app;rw[←hw]at hlk
  refine Or.inl (eI _ (aI (bN _ _) ?_));refine Or.inl (eI _ (aI (bN y 0) ?_));refine Or.inr (eI _ (eI _ (aI hlk ?_)));refine fin [(10002,20000)] (aI rfl ?_);refine⟨trivial,⟨rfl,trivial⟩,⟨?_,pR _⟩,trivial⟩;show bL (xs++jq lv ((xs.length:Nat)-1:Int) t (t.length-1)) (IntKind.i64.wrap (((xs.length:Nat)-1:Int)+(au t (0,0)).1),(au t (0,0)).2) (y,0)=eO t lv xs y;rw[hw];rfl
theorem expB(t:List aj)(xs:List aj)(us:List Value)(pk:Int)(tr:List Int)(x y:Int)(lv:Int)(hlv0:(ah xs x).2.1=lv)(hx:0≤x∧x<(xs.length:Nat))(hl:xs.length≤900000)(hs:bE t)(ht:1≤t.length)(htl:t.length≤1000)(ht0:0<(ah t 0).2.2.2.2.length)(hlv1:0≤lv∧lv≤8)(hlt8:∀i:Nat,0≤(ah t i).2.1∧(ah t i).2.1≤8)
  (hpt:∀i j:Nat,sV (elt (dflt aM) (ah t (i:Nat)).2.2.2.2 (j:Nat)).1) (hy:ak xs (y,0)) (htop:ak (xs++jq lv ((xs.length:Nat)-1:Int) t (t.length-1)) (((xs.length:Nat)-1:Int)+(au t (0,0)).1,(au t (0,0)).2)):
  aA Tryz.prog 144 [.rp aR t,.ptr 10000 0,.int .i64 x,.int .i64 y] (tB xs us pk tr) (.tup []) (PS 10003 (eO t lv xs y) us pk tr):=by
 subst hlv0;refine aA.intro (nt:=99) aH mixed RQ Tryz.func144 rfl rfl rfl rfl rfl rfl ?_;refine aI hx ?_;have hwb:IntKind.i64.wrap ((xs.length:Nat)-1)=((xs.length:Nat)-1:Int):=qO _ (by omega);generalize hlve:(ah xs x).2.1=lv at*;refine lp Nat (fun k=>[(10,.int .i64 ((k+1:Nat):Int)),(8,.int .i64 lv),(9,.int .i64 ((xs.length:Nat)-1:Int))]) (fun k=>[.bV 10000 66 [.sl 20000,.sl 10002,.int .i64 pk],.row 20000 131 5 aD (xs++jq lv ((xs.length:Nat)-1:Int) t k) us,.row 10002 2 1 (.int .i64) tr []]) (fun k=>t.length-1-k) (fun k=>k+1≤t.length) 0 ht ?_ ?_
 ·refine hd [(20000,10001)] rfl (aI (aI rfl rfl) (aI (aI hlve rfl) (aI (aI hwb rfl) trivial))) ⟨trivial,⟨rfl,rfl,⟨rfl,rfl⟩,trivial⟩,⟨?_,pR _⟩,⟨rfl,nP⟩,trivial⟩;show xs=(xs++jq lv ((xs.length:Nat)-1:Int) t 0);unfold jq;simp
 intro k hk;refine aI (fun q1=> ?_) (fun q1=> ?_)
 ·have hlt:k+1<t.length:=by
   have q2:decide (((k+1:Nat):Int)<(t.length:Nat))=true:=q1;have q3:((k+1:Nat):Int)<(t.length:Nat):=by simpa using q2
   omega
  refine aI (show 0≤((k+1:Nat):Int)∧((k+1:Nat):Int)<(t.length:Nat) by omega) ?_;refine Or.inr (eI _ (eI _ (aI (IB (ah t ((k+1:Nat):Int)) (hs.2 (k+1)).1 (hs.2 (k+1)).2) ?_)));refine Or.inl (eI _ (aI (BR _) ?_));have hl8:=hlt8 (k+1);refine aI (fun q2=> ?_) (fun q2=> ?_)
  ·have hlev:bR (ah t ((k+1:Nat):Int)).1=true:=q2;refine lp Nat (fun j=>[(12,.int .i64 (j:Nat))]) (fun j=>[.bV 11 131 [.int .i64 (ah t ((k+1:Nat):Int)).1,.int .i64 (IntKind.i64.wrap ((ah t ((k+1:Nat):Int)).2.1+lv)),.int .i64 (ah t ((k+1:Nat):Int)).2.2.1,.sl 43,.sl 21001],.bV 10000 66 [.sl 21000,.sl 10002,.int .i64 pk],.row 21000 131 5 aD (xs++jq lv ((xs.length:Nat)-1:Int) t k) us,.row 10002 2 1 (.int .i64) tr [],.row 43 2 1 (.int .i64) (ah t ((k+1:Nat):Int)).2.2.2.1 [],.row 21001 102 2 aM (dV ((xs.length:Nat)-1:Int) (ah t ((k+1:Nat):Int)).2.2.2.2 j) []]) (fun j=>(ah t ((k+1:Nat):Int)).2.2.2.2.length-j) (fun j=>j≤(ah t ((k+1:Nat):Int)).2.2.2.2.length) 0 (Nat.zero_le _) ?_ ?_
   ·exact hd [(21000,20000),(21001,1000043)] rfl (aI (aI rfl rfl) trivial) ⟨trivial,⟨⟨rfl,rfl⟩,⟨rfl,rfl⟩,⟨rfl,rfl⟩,rfl,rfl,trivial⟩,trivial,⟨rfl,rfl,⟨rfl,rfl⟩,trivial⟩,⟨rfl,pR _⟩,⟨rfl,nP⟩,⟨rfl,nP⟩,⟨rfl,nP⟩,trivial⟩
   intro j hj;refine aI (fun q3=> ?_) (fun q3=> ?_)
   ·have hlt2:j<(ah t ((k+1:Nat):Int)).2.2.2.2.length:=by
     have q4:decide (((j:Nat):Int)<((dV ((xs.length:Nat)-1:Int) (ah t ((k+1:Nat):Int)).2.2.2.2 j).length:Nat))=true:=q3;rw[iK]at q4;simpa using q4
    have hpv:sV (elt (dflt aM) (ah t ((k+1:Nat):Int)).2.2.2.2 (j:Nat)).1:=hpt (k+1) j;unfold sV at hpv;have hps:(ah t ((k+1:Nat):Int)).2.2.2.2.length≤1048576:=(hs.2 (k+1)).2;have hat:elt (dflt aM) (dV ((xs.length:Nat)-1:Int) (ah t ((k+1:Nat):Int)).2.2.2.2 j) (j:Nat)=elt (dflt aM) (ah t ((k+1:Nat):Int)).2.2.2.2 (j:Nat):=tY hlt2;have hw:IntKind.i64.wrap ((elt (dflt aM) (ah t ((k+1:Nat):Int)).2.2.2.2 (j:Nat)).1+((xs.length:Nat)-1:Int))=(elt (dflt aM) (ah t ((k+1:Nat):Int)).2.2.2.2 (j:Nat)).1+((xs.length:Nat)-1:Int):=qO _ (by omega)
    have hbnd:0≤((j:Nat):Int)∧((j:Nat):Int)<((dV ((xs.length:Nat)-1:Int) (ah t ((k+1:Nat):Int)).2.2.2.2 j).length:Nat):=by rw[iK];omega
    refine aI hbnd ?_;refine aI hbnd ?_;refine aP (j+1) hlt2 ?_ ?_
    ·refine hd [] rfl (aI (aI (dB (by omega)) rfl) trivial) ⟨trivial,⟨⟨rfl,rfl⟩,⟨rfl,rfl⟩,⟨rfl,rfl⟩,rfl,rfl,trivial⟩,trivial,⟨rfl,rfl,⟨rfl,rfl⟩,trivial⟩,⟨rfl,pR _⟩,⟨rfl,nP⟩,⟨rfl,nP⟩,⟨?_,nP⟩,trivial⟩;show(dV ((xs.length:Nat)-1:Int) (ah t ((k+1:Nat):Int)).2.2.2.2 j).set j (IntKind.i64.wrap ((elt (dflt aM) (dV ((xs.length:Nat)-1:Int) (ah t ((k+1:Nat):Int)).2.2.2.2 j) (j:Nat)).1+((xs.length:Nat)-1:Int)),(elt (dflt aM) (dV ((xs.length:Nat)-1:Int) (ah t ((k+1:Nat):Int)).2.2.2.2 j) (j:Nat)).2)=dV ((xs.length:Nat)-1:Int) (ah t ((k+1:Nat):Int)).2.2.2.2 (j+1)
     rw[rA hlt2,hat,hw]
    ·show(ah t ((k+1:Nat):Int)).2.2.2.2.length-(j+1)<(ah t ((k+1:Nat):Int)).2.2.2.2.length-j;omega
   have hje:j=(ah t ((k+1:Nat):Int)).2.2.2.2.length:=by
    have q4:decide (((j:Nat):Int)<((dV ((xs.length:Nat)-1:Int) (ah t ((k+1:Nat):Int)).2.2.2.2 j).length:Nat))=false:=q3;rw[iK]at q4;have q5:(ah t ((k+1:Nat):Int)).2.2.2.2.length≤j:=by simpa using q4
    omega
   refine aI (by show(xs++jq lv ((xs.length:Nat)-1:Int) t k).length+1≤_;rw[qA,zk (by omega)];have:=hs.1;omega) ?_;refine aI (by kernel_rfl) ?_;refine aP (k+1) (by show k+1+1≤t.length;omega) ?_ ?_
   ·refine hd [(20000,76)] rfl (aI (aI (dB (by have:=hs.1;omega)) rfl) (aI (aI rfl rfl) (aI (aI rfl rfl) trivial))) ⟨trivial,⟨rfl,rfl,⟨rfl,rfl⟩,trivial⟩,⟨?_,pR _⟩,⟨rfl,nP⟩,trivial⟩;show(xs++jq lv ((xs.length:Nat)-1:Int) t k)++[((ah t ((k+1:Nat):Int)).1,(IntKind.i64.wrap ((ah t ((k+1:Nat):Int)).2.1+lv)),(ah t ((k+1:Nat):Int)).2.2.1,(ah t ((k+1:Nat):Int)).2.2.2.1,dV ((xs.length:Nat)-1:Int) (ah t ((k+1:Nat):Int)).2.2.2.2 j)]=(xs++jq lv ((xs.length:Nat)-1:Int) t (k+1));rw[wU hlt,hje,tX,qF]
    congr 2
    unfold cZ iR;rw[show bR (ah t ((k+1:Nat):Int)).kind=true from hlev,qO _ (by omega)];rfl
   ·show t.length-1-(k+1)<t.length-1-k;omega
  ·have hlev:bR (ah t ((k+1:Nat):Int)).1=false:=q2;refine lp Nat (fun j=>[(12,.int .i64 (j:Nat))]) (fun j=>[.bV 11 131 [.int .i64 (ah t ((k+1:Nat):Int)).1,.int .i64 (ah t ((k+1:Nat):Int)).2.1,.int .i64 (ah t ((k+1:Nat):Int)).2.2.1,.sl 43,.sl 21001],.bV 10000 66 [.sl 21000,.sl 10002,.int .i64 pk],.row 21000 131 5 aD (xs++jq lv ((xs.length:Nat)-1:Int) t k) us,.row 10002 2 1 (.int .i64) tr [],.row 43 2 1 (.int .i64) (ah t ((k+1:Nat):Int)).2.2.2.1 [],.row 21001 102 2 aM (dV ((xs.length:Nat)-1:Int) (ah t ((k+1:Nat):Int)).2.2.2.2 j) []]) (fun j=>(ah t ((k+1:Nat):Int)).2.2.2.2.length-j) (fun j=>j≤(ah t ((k+1:Nat):Int)).2.2.2.2.length) 0 (Nat.zero_le _) ?_ ?_
   ·exact hd [(21000,20000),(21001,1000043)] rfl (aI (aI rfl rfl) trivial) ⟨trivial,⟨⟨rfl,rfl⟩,⟨rfl,rfl⟩,⟨rfl,rfl⟩,rfl,rfl,trivial⟩,trivial,⟨rfl,rfl,⟨rfl,rfl⟩,trivial⟩,⟨rfl,pR _⟩,⟨rfl,nP⟩,⟨rfl,nP⟩,⟨rfl,nP⟩,trivial⟩
   intro j hj;refine aI (fun q3=> ?_) (fun q3=> ?_)
   ·have hlt2:j<(ah t ((k+1:Nat):Int)).2.2.2.2.length:=by
     have q4:decide (((j:Nat):Int)<((dV ((xs.length:Nat)-1:Int) (ah t ((k+1:Nat):Int)).2.2.2.2 j).length:Nat))=true:=q3;rw[iK]at q4;simpa using q4
    have hpv:sV (elt (dflt aM) (ah t ((k+1:Nat):Int)).2.2.2.2 (j:Nat)).1:=hpt (k+1) j;unfold sV at hpv;have hps:(ah t ((k+1:Nat):Int)).2.2.2.2.length≤1048576:=(hs.2 (k+1)).2;have hat:elt (dflt aM) (dV ((xs.length:Nat)-1:Int) (ah t ((k+1:Nat):Int)).2.2.2.2 j) (j:Nat)=elt (dflt aM) (ah t ((k+1:Nat):Int)).2.2.2.2 (j:Nat):=tY hlt2;have hw:IntKind.i64.wrap ((elt (dflt aM) (ah t ((k+1:Nat):Int)).2.2.2.2 (j:Nat)).1+((xs.length:Nat)-1:Int))=(elt (dflt aM) (ah t ((k+1:Nat):Int)).2.2.2.2 (j:Nat)).1+((xs.length:Nat)-1:Int):=qO _ (by omega)
    have hbnd:0≤((j:Nat):Int)∧((j:Nat):Int)<((dV ((xs.length:Nat)-1:Int) (ah t ((k+1:Nat):Int)).2.2.2.2 j).length:Nat):=by rw[iK];omega
    refine aI hbnd ?_;refine aI hbnd ?_;refine aP (j+1) hlt2 ?_ ?_
    ·refine hd [] rfl (aI (aI (dB (by omega)) rfl) trivial) ⟨trivial,⟨⟨rfl,rfl⟩,⟨rfl,rfl⟩,⟨rfl,rfl⟩,rfl,rfl,trivial⟩,trivial,⟨rfl,rfl,⟨rfl,rfl⟩,trivial⟩,⟨rfl,pR _⟩,⟨rfl,nP⟩,⟨rfl,nP⟩,⟨?_,nP⟩,trivial⟩;show(dV ((xs.length:Nat)-1:Int) (ah t ((k+1:Nat):Int)).2.2.2.2 j).set j (IntKind.i64.wrap ((elt (dflt aM) (dV ((xs.length:Nat)-1:Int) (ah t ((k+1:Nat):Int)).2.2.2.2 j) (j:Nat)).1+((xs.length:Nat)-1:Int)),(elt (dflt aM) (dV ((xs.length:Nat)-1:Int) (ah t ((k+1:Nat):Int)).2.2.2.2 j) (j:Nat)).2)=dV ((xs.length:Nat)-1:Int) (ah t ((k+1:Nat):Int)).2.2.2.2 (j+1)
     rw[rA hlt2,hat,hw]
    ·show(ah t ((k+1:Nat):Int)).2.2.2.2.length-(j+1)<(ah t ((k+1:Nat):Int)).2.2.2.2.length-j;omega
   have hje:j=(ah t ((k+1:Nat):Int)).2.2.2.2.length:=by
    have q4:decide (((j:Nat):Int)<((dV ((xs.length:Nat)-1:Int) (ah t ((k+1:Nat):Int)).2.2.2.2 j).length:Nat))=false:=q3;rw[iK]at q4;have q5:(ah t ((k+1:Nat):Int)).2.2.2.2.length≤j:=by simpa using q4
    omega
   refine aI (by show(xs++jq lv ((xs.length:Nat)-1:Int) t k).length+1≤_;rw[qA,zk (by omega)];have:=hs.1;omega) ?_;refine aI (by kernel_rfl) ?_;refine aP (k+1) (by show k+1+1≤t.length;omega) ?_ ?_
   ·refine hd [(20000,76)] rfl (aI (aI (dB (by have:=hs.1;omega)) rfl) (aI (aI rfl rfl) (aI (aI rfl rfl) trivial))) ⟨trivial,⟨rfl,rfl,⟨rfl,rfl⟩,trivial⟩,⟨?_,pR _⟩,⟨rfl,nP⟩,trivial⟩;show(xs++jq lv ((xs.length:Nat)-1:Int) t k)++[((ah t ((k+1:Nat):Int)).1,(ah t ((k+1:Nat):Int)).2.1,(ah t ((k+1:Nat):Int)).2.2.1,(ah t ((k+1:Nat):Int)).2.2.2.1,dV ((xs.length:Nat)-1:Int) (ah t ((k+1:Nat):Int)).2.2.2.2 j)]=(xs++jq lv ((xs.length:Nat)-1:Int) t (k+1));rw[wU hlt,hje,tX,qF]
    congr 2
    unfold cZ iR;rw[show bR (ah t ((k+1:Nat):Int)).kind=false from hlev];rfl
   ·show t.length-1-(k+1)<t.length-1-k;omega
 ·have hke:k=t.length-1:=by
   have q2:decide (((k+1:Nat):Int)<(t.length:Nat))=false:=q1;have q3:(t.length:Nat)≤((k+1:Nat):Int):=by simpa using q2
   omega
  subst hke;refine aI (show(0:Int)≤0∧(0:Int)<(t.length:Nat) by omega) ?_;refine aI (show(0:Int)≤0∧(0:Int)<((ah t 0).2.2.2.2.length:Nat) by omega) ?_;have hp0:sV (au t (0,0)).1:=hpt 0 0;unfold sV at hp0;have hw:IntKind.i64.wrap (((xs.length:Nat)-1:Int)+(au t (0,0)).1)=((xs.length:Nat)-1:Int)+(au t (0,0)).1:=qO _ (by omega);have hlk:=FW (xs++jq lv ((xs.length:Nat)-1:Int) t (t.length-1)) us pk tr (((xs.length:Nat)-1:Int)+(au t (0,0)).1,(au t (0,0)).2) (y,0) htop hy.app;rw[←hw]at hlk
  refine Or.inl (eI _ (aI (bN _ _) ?_));refine Or.inl (eI _ (aI (bN y 0) ?_));refine Or.inr (eI _ (eI _ (aI hlk ?_)));refine fin [(10003,20000)] (aI rfl ?_);refine⟨trivial,⟨rfl,rfl,⟨rfl,rfl⟩,trivial⟩,⟨?_,pR _⟩,⟨rfl,nP⟩,trivial⟩;show bL (xs++jq lv ((xs.length:Nat)-1:Int) t (t.length-1)) (IntKind.i64.wrap (((xs.length:Nat)-1:Int)+(au t (0,0)).1),(au t (0,0)).2) (y,0)=eO t lv xs y;rw[hw];rfl
theorem w9:bH Tryz.prog 137=true:=by kernel_rfl
theorem JO(bk:List (List aj))(xs:List aj)(a b:Int)(ha:0≤a∧a<(xs.length:Nat))(hb:0≤b∧b<(xs.length:Nat))(hs:∀i:Nat,bE (bO bk i))(hv:bK (ah xs (aC xs a b).1) (ah xs (aC xs a b).2)=7→0≤(ah xs (aC xs a b).1).2.2.1):
  aO Tryz.prog 137 [.rsl aR bk,.rp aR xs,.int .i64 a,.int .i64 b] (.tup [.int .i64 (gK bk (ah xs (aC xs a b).1) (ah xs (aC xs a b).2)).1,.int .i64 (gK bk (ah xs (aC xs a b).1) (ah xs (aC xs a b).2)).2]):=by
 obtain⟨h1,h2⟩:=wV (xs:=xs) ha hb;refine aO.intro (nt:=92) aH mixed w9 Tryz.func137 rfl rfl rfl rfl rfl ?_;refine Or.inl (eI _ (aI (Lu xs a b ha hb) ?_));refine aI h1 ?_;refine aI h2 ?_;refine Or.inl (eI _ (aI (Qr (ah xs (aC xs a b).1) (ah xs (aC xs a b).2)) ?_));refine aI (fun q1=> ?_) (fun q1=> ?_)
 ·have e:gK bk (ah xs (aC xs a b).1) (ah xs (aC xs a b).2)=(0,11):=by have b:((bK (ah xs (aC xs a b).1) (ah xs (aC xs a b).2))==8)=true:=q1;simp only[gK,b,qG]
  rw[e];exact rfl
 have b8:((bK (ah xs (aC xs a b).1) (ah xs (aC xs a b).2))==8)=false:=q1;have fin0:∀z:Int,((bK (ah xs (aC xs a b).1) (ah xs (aC xs a b).2))==7)=false→rF bk (bK (ah xs (aC xs a b).1) (ah xs (aC xs a b).2)) (ah xs (aC xs a b).1) (ah xs (aC xs a b).2)=z→gK bk (ah xs (aC xs a b).1) (ah xs (aC xs a b).2)=((dK (bK (ah xs (aC xs a b).1) (ah xs (aC xs a b).2)) z).1,0):=fun z h e=>by simp only[gK,b8,h,qH,e]
 refine aI (fun q2=> ?_) (fun q2=> ?_)
 ·refine aI (fun _=> ?_) (fun h=>by rw[show((bK (ah xs (aC xs a b).1) (ah xs (aC xs a b).2))==3)=true from q2]at h;cases h);refine Or.inl (eI _ (aI (zq _ _) ?_));have b3:((bK (ah xs (aC xs a b).1) (ah xs (aC xs a b).2))==3)=true:=q2;have c3:(bK (ah xs (aC xs a b).1) (ah xs (aC xs a b).2))=3:=by simpa using b3
  have e:=fin0 (IntKind.i64.wrap (((ah xs (aC xs a b).2).2.2.2.2.length:Nat)-1)) (by rw[c3];rfl) (by simp only[rF,b3,qG]);rw[e];exact rfl
 have b3:((bK (ah xs (aC xs a b).1) (ah xs (aC xs a b).2))==3)=false:=q2;refine aI (fun q3=> ?_) (fun q3=> ?_)
 ·refine Or.inl (eI _ (aI (zq _ _) ?_));have b4:((bK (ah xs (aC xs a b).1) (ah xs (aC xs a b).2))==4)=true:=q3;have c4:(bK (ah xs (aC xs a b).1) (ah xs (aC xs a b).2))=4:=by simpa using b4
  have e:=fin0 (IntKind.i64.wrap (((ah xs (aC xs a b).2).2.2.2.2.length:Nat)-1)) (by rw[c4];rfl) (by simp only[rF,b3,b4,qG,qH]);rw[e];exact rfl
 have b4:((bK (ah xs (aC xs a b).1) (ah xs (aC xs a b).2))==4)=false:=q3;refine aI (fun q4=> ?_) (fun q4=> ?_)
 ·refine Or.inl (eI _ (aI (Nk _) ?_));refine Or.inl (eI _ (aI (zq _ _) ?_));have b6:((bK (ah xs (aC xs a b).1) (ah xs (aC xs a b).2))==6)=true:=q4;have c6:(bK (ah xs (aC xs a b).1) (ah xs (aC xs a b).2))=6:=by simpa using b6
  have e:=fin0 (mH (ah xs (aC xs a b).1)) (by rw[c6];rfl) (by simp only[rF,b3,b4,b6,qG,qH]);rw[e];exact rfl
 have b6:((bK (ah xs (aC xs a b).1) (ah xs (aC xs a b).2))==6)=false:=q4;refine aI (fun q5=> ?_) (fun q5=> ?_)
 ·have b7:((bK (ah xs (aC xs a b).1) (ah xs (aC xs a b).2))==7)=true:=q5;have c7:(bK (ah xs (aC xs a b).1) (ah xs (aC xs a b).2))=7:=by simpa using b7
  have v0:=hv c7;have ek:bO bk (ah xs (aC xs a b).1).2.2.1=bO bk ((ah xs (aC xs a b).1).2.2.1.toNat:Nat):=by unfold bO;exact Nb (by omega)
  have hsm:(bO bk (ah xs (aC xs a b).1).2.2.1).length≤2000000:=by rw[ek];have:=(hs (ah xs (aC xs a b).1).2.2.1.toNat).1;omega
  refine aI (fun q6=> ?_) (fun q6=> ?_)
  ·have q7:decide ((bk.length:Int)≤(ah xs (aC xs a b).1).2.2.1)=true:=q6;have e:gK bk (ah xs (aC xs a b).1) (ah xs (aC xs a b).2)=(0,3):=by simp only[gK,b8,b7,q7,qG,qH]
   rw[e];exact rfl
  have q7:decide ((bk.length:Int)≤(ah xs (aC xs a b).1).2.2.1)=false:=q6;have hlt:(ah xs (aC xs a b).1).2.2.1<(bk.length:Nat):=by simpa using q7
  refine aI ⟨v0,hlt⟩ ?_;refine aI ⟨v0,hlt⟩ ?_;refine Or.inl (eI _ (aI (YJ (bO bk (ah xs (aC xs a b).1).2.2.1) hsm) ?_));refine aI (by kernel_rfl) ?_;refine aI (fun q8=> ?_) (fun q8=> ?_)
  ·have q9:decide (8<IntKind.i64.wrap (lu (bO bk (ah xs (aC xs a b).1).2.2.1) (bO bk (ah xs (aC xs a b).1).2.2.1).length+(ah xs (aC xs a b).1).2.1))=true:=q8;have e:gK bk (ah xs (aC xs a b).1) (ah xs (aC xs a b).2)=(0,9):=by simp only[gK,b8,b7,q7,q9,qG,qH]
   rw[e];exact rfl
  have q9:decide (8<IntKind.i64.wrap (lu (bO bk (ah xs (aC xs a b).1).2.2.1) (bO bk (ah xs (aC xs a b).1).2.2.1).length+(ah xs (aC xs a b).1).2.1))=false:=q8;refine Or.inl (eI _ (aI (zq _ _) ?_))
  have e:gK bk (ah xs (aC xs a b).1) (ah xs (aC xs a b).2)=((dK 7 ((bO bk (ah xs (aC xs a b).1).2.2.1).length:Nat)).1,0):=by
   have e7:rF bk 7 (ah xs (aC xs a b).1) (ah xs (aC xs a b).2)=((bO bk (ah xs (aC xs a b).1).2.2.1).length:Nat):=rfl;simp only[gK,b8,b7,q7,q9,qG,qH,e7]
  rw[e,←c7];exact rfl
 have b7:((bK (ah xs (aC xs a b).1) (ah xs (aC xs a b).2))==7)=false:=q5;refine Or.inl (eI _ (aI (zq _ _) ?_));have e:=fin0 0 b7 (by simp only[rF,b3,b4,b6,b7,qH]);rw[e];exact rfl
theorem LU:bH Tryz.prog 90=true:=by kernel_rfl
section
variable (bk:List (List aj))(xs:List aj)(us:List Value)(a b:Int)(ha:0≤a∧a<(xs.length:Nat))(hb:0≤b∧b<(xs.length:Nat))(hs:∀i:Nat,bE (bO bk i))(hlx:xs.length≤800000)(hv:bK (ah xs (aC xs a b).1) (ah xs (aC xs a b).2)=7→0≤(ah xs (aC xs a b).1).2.2.1)
include ha hb hs hlx hv
theorem ZH{g:Int}(hge:gK bk (ah xs (aC xs a b).1) (ah xs (aC xs a b).2)=(g,0))(hf:600<IntKind.i64.wrap ((bP xs xs.length:Nat)+g)):aA Tryz.prog 90 [.rsl aR bk,.ptr 10000 0,.int .i64 a,.int .i64 b] (tA xs us) (.int .i64 4) (tA xs us):=by
 have hg:=JO bk xs a b ha hb hs hv;rw[hge]at hg;refine aA.intro (nt:=134) aH mixed LU Tryz.func90 rfl rfl rfl rfl rfl rfl ?_;refine Or.inr (eI _ (eI _ (aI (aA.oh aH [0,61,0,0] w9 hg rfl) ?_)));refine aI (fun q1=>by cases q1) (fun q1=> ?_);refine Or.inr (eI _ (eI _ (aI (aA.oh aH [61] Ay (J5 xs (by omega)) rfl) ?_)));refine aI (fun q2=> ?_) (fun q2=> ?_)
 ·refine fin [] (aI ⟨rfl,rfl⟩ ?_);exact⟨trivial,⟨rfl,trivial⟩,⟨rfl,pR _⟩,trivial⟩
 ·have q3:decide (600<IntKind.i64.wrap ((bP xs xs.length:Nat)+g))=false:=q2;simp only[decide_eq_false_iff_not]at q3;exact absurd hf q3
theorem doOkA{c x y g:Int}(hf:aC xs a b=(x,y))(hc:bK (ah xs x) (ah xs y)=c)(hge:gK bk (ah xs x) (ah xs y)=(g,0))(hc7:1≤c∧c≤7)(hp:GD xs c x y)(hA:aW xs)(h0:ak xs (0,0))(h7:c=7→0≤(ah xs x).2.2.1∧(ah xs x).2.2.1<(bk.length:Nat))(hn:¬600<IntKind.i64.wrap ((bP xs xs.length:Nat)+g))
  (hE:c=7→∀us,aA Tryz.prog 144 [.rp aR (bO bk (ah xs x).2.2.1),.ptr 10000 0,.int .i64 x,.int .i64 y] (tA xs us) (.tup []) (TH 10002 (eO (bO bk (ah xs x).2.2.1) (ah xs x).2.1 xs y) us)):
  aA Tryz.prog 90 [.rsl aR bk,.ptr 10000 0,.int .i64 a,.int .i64 b] (tA xs us) (.int .i64 0) (TH 10002 (fO bk xs c x y) []):=by
 have hg:=JO bk xs a b ha hb hs hv;have hfst:=Lu xs a b ha hb;rw[hf]at hg hfst;rw[show(x,y).1=x from rfl,show(x,y).2=y from rfl,hge]at hg;rw[show(x,y).1=x from rfl,show(x,y).2=y from rfl]at hfst;obtain⟨⟨hx0,hy0,p12,p3,px,py,dy,p5,p6⟩,k5,k6⟩:=hp;refine aA.jA 10001 LU ?_;refine aI (fun _ us' hpre hlen=> ?_) (fun h=>absurd rfl h)
 skip
 refine aA.intro (nt:=134) aH mixed LU Tryz.func90 rfl rfl rfl rfl rfl rfl ?_;refine Or.inr (eI _ (eI _ (aI (aA.oh aH [0,61,0,0] w9 hg rfl) ?_)));refine aI (fun q1=>by cases q1) (fun q1=> ?_);refine Or.inr (eI _ (eI _ (aI (aA.oh aH [61] Ay (J5 xs (by omega)) rfl) ?_)));refine aI (fun q2=> ?_) (fun q2=> ?_)
 ·have q3:decide (600<IntKind.i64.wrap ((bP xs xs.length:Nat)+g))=true:=q2;simp only[qQ]at q3;exact absurd q3 hn
 refine Or.inr (eI _ (eI _ (aI (aA.oh aH [61,0,0] Dp hfst rfl) ?_)));refine aI hx0 ?_;refine aI hy0 ?_;have hce:=G5 xs us' x y;rw[hc]at hce;refine Or.inr (eI _ (eI _ (aI hce ?_)));refine aI (by kernel_rfl) ?_;refine aI (fun b1=> ?_) (fun b1=> ?_)
 ·have c1:c=1:=by have b:(c==1)=true:=b1;simpa using b
  have n7:(c==7)=false:=by rw[c1];rfl
  refine aI (fun _=> ?_) (fun h=>by rw[show(c==1)=true from b1]at h;cases h);obtain⟨j1,j2,j3,j4⟩:=p12 (.inl c1);refine Or.inl (eI _ (aI (bN _ _) ?_));refine Or.inl (eI _ (aI (bN _ _) ?_));refine Or.inr (eI _ (eI _ (aI (Nw xs us' (x,1) (y,1) j1 j3 (hA _ j1) (hA _ j3)) ?_)));have hA1:=hA.join j1 j3;refine Or.inl (eI _ (aI (bN _ _) ?_));refine Or.inl (eI _ (aI (bN _ _) ?_));refine Or.inr (eI _ (eI _ (aI (Nw (aU xs (x,1) (y,1)) us' (x,2) (y,2) j2.join j4.join (hA1 _ j2.join) (hA1 _ j4.join)) ?_)));have hll:xs.length≤(aU (aU xs (x,1) (y,1)) (x,2) (y,2)).length:=by rw[lS,lS];exact Nat.le_refl _
  have hlx2:0≤x∧x<((aU (aU xs (x,1) (y,1)) (x,2) (y,2)).length:Nat):=by omega
  have hly:0≤y∧y<((aU (aU xs (x,1) (y,1)) (x,2) (y,2)).length:Nat):=by omega
  refine Or.inr (eI _ (eI _ (aI (kJ (aU (aU xs (x,1) (y,1)) (x,2) (y,2)) us' x hlx2) ?_)));refine aI (fun _=> ?_) (fun q7=>by have q8:(c !=7)=false:=q7;rw[c1]at q8;cases q8);refine Or.inr (eI _ (eI _ (aI (kJ (bC (aU (aU xs (x,1) (y,1)) (x,2) (y,2)) x) [] y (by rw[eH];exact hly)) ?_)));refine fin [(10002,10001)] (aI ⟨rfl,rfl⟩ ?_);refine⟨trivial,⟨rfl,trivial⟩,⟨?_,nP⟩,trivial⟩;show bC (bC (aU (aU xs (x,1) (y,1)) (x,2) (y,2)) x) y=fO bk xs c x y;simp only[fO,gZ,b1,n7,qG,qH]
 refine aI (fun b2=> ?_) (fun b2=> ?_)
 ·have c2:c=2:=by have b:(c==2)=true:=b2;simpa using b
  have n7:(c==7)=false:=by rw[c2];rfl
  obtain⟨j1,j2,j3,j4⟩:=p12 (.inr c2);refine Or.inl (eI _ (aI (bN _ _) ?_));refine Or.inl (eI _ (aI (bN _ _) ?_));refine Or.inr (eI _ (eI _ (aI (Nw xs us' (x,1) (y,1) j1 j3 (hA _ j1) (hA _ j3)) ?_)));have hA1:=hA.join j1 j3;refine Or.inl (eI _ (aI (bN _ _) ?_));refine Or.inl (eI _ (aI (bN _ _) ?_));refine Or.inr (eI _ (eI _ (aI (Nw (aU xs (x,1) (y,1)) us' (x,2) (y,2) j2.join j4.join (hA1 _ j2.join) (hA1 _ j4.join)) ?_)));have hll:xs.length≤(aU (aU xs (x,1) (y,1)) (x,2) (y,2)).length:=by rw[lS,lS];exact Nat.le_refl _
  have hlx2:0≤x∧x<((aU (aU xs (x,1) (y,1)) (x,2) (y,2)).length:Nat):=by omega
  have hly:0≤y∧y<((aU (aU xs (x,1) (y,1)) (x,2) (y,2)).length:Nat):=by omega
  refine Or.inr (eI _ (eI _ (aI (kJ (aU (aU xs (x,1) (y,1)) (x,2) (y,2)) us' x hlx2) ?_)));refine aI (fun _=> ?_) (fun q7=>by have q8:(c !=7)=false:=q7;rw[c2]at q8;cases q8);refine Or.inr (eI _ (eI _ (aI (kJ (bC (aU (aU xs (x,1) (y,1)) (x,2) (y,2)) x) [] y (by rw[eH];exact hly)) ?_)));refine fin [(10002,10001)] (aI ⟨rfl,rfl⟩ ?_);refine⟨trivial,⟨rfl,trivial⟩,⟨?_,nP⟩,trivial⟩;show bC (bC (aU (aU xs (x,1) (y,1)) (x,2) (y,2)) x) y=fO bk xs c x y;simp only[fO,gZ,b1,b2,n7,qG,qH]
 refine aI (fun b3=> ?_) (fun b3=> ?_)
 ·have c3:c=3:=by have b:(c==3)=true:=b3;simpa using b
  have n7:(c==7)=false:=by rw[c3];rfl
  obtain⟨j1,j2⟩:=p3 c3;refine Or.inr (eI _ (eI _ (aI (dupA xs us' x y hA h0 (by omega) j1 j2 hy0 py.2 dy py.1) ?_)));have hll:xs.length≤(bI xs x y).length:=by exact xO xs x y
  have hlx2:0≤x∧x<((bI xs x y).length:Nat):=by omega
  have hly:0≤y∧y<((bI xs x y).length:Nat):=by omega
  refine Or.inr (eI _ (eI _ (aI (kJ (bI xs x y) us' x hlx2) ?_)));refine aI (fun _=> ?_) (fun q7=>by have q8:(c !=7)=false:=q7;rw[c3]at q8;cases q8);refine Or.inr (eI _ (eI _ (aI (kJ (bC (bI xs x y) x) [] y (by rw[eH];exact hly)) ?_)));refine fin [(10002,72)] (aI ⟨rfl,rfl⟩ ?_);refine⟨trivial,⟨rfl,trivial⟩,⟨?_,nP⟩,trivial⟩;show bC (bC (bI xs x y) x) y=fO bk xs c x y;simp only[fO,gZ,b1,b2,b3,n7,qG,qH]
 refine aI (fun b4=> ?_) (fun b4=> ?_)
 ·have c4:c=4:=by have b:(c==4)=true:=b4;simpa using b
  have n7:(c==7)=false:=by rw[c4];rfl
  have hyk:∀i:Nat,i<((ah xs y).2.2.2.2.length-1)→ak xs (y,((i+1:Nat):Int)):=fun i hi=>⟨hy0.1,hy0.2,by omega,by show((i+1:Nat):Int)<((ah xs y).2.2.2.2.length:Nat);omega⟩
  refine aI hy0 ?_;refine aI (sJ hlen hy0.1 hy0.2) ?_;refine lp Nat (fun k=>[(13,.int .i64 ((k+1:Nat):Int)),(12,.int .i64 ((ah xs y).2.2.2.2.length:Nat))]) (fun k=>[.bV 10000 30 [.sl 20000],.row 20000 131 5 aD (rU y xs k) us']) (fun k=>((ah xs y).2.2.2.2.length-1)-k) (fun k=>k≤((ah xs y).2.2.2.2.length-1)) 0 (Nat.zero_le _) ?_ ?_
  ·exact hd [(20000,10001)] rfl (aI (aI rfl rfl) (aI (aI rfl rfl) trivial)) ⟨trivial,⟨rfl,trivial⟩,⟨rfl,pR _⟩,trivial⟩
  intro k hk;refine aI (fun q4=> ?_) (fun q4=> ?_)
  ·have hlt:k<((ah xs y).2.2.2.2.length-1):=by
    have q5:decide (((k+1:Nat):Int)<((ah xs y).2.2.2.2.length:Nat))=true:=q4;have q6:((k+1:Nat):Int)<((ah xs y).2.2.2.2.length:Nat):=by simpa using q5
    omega
   have hadd:=uF (rU y xs k) us' 5 0 0 1 (by rw[jO];omega) (by omega);rw[jO]at hadd;refine Or.inr (eI _ (eI _ (aI hadd ?_)));refine Or.inl (eI _ (aI (bN _ _) ?_));refine Or.inl (eI _ (aI (bN _ _) ?_));refine Or.inr (eI _ (eI _ (aI (moveA (rU y xs k++[bB 5 0 0 [] 1]) us' (y,((k+1:Nat):Int)) (((xs.length+k:Nat):Int),0) ((wT hA h0 k fun i hi=>hyk i (by omega)).add (nZ h0 k) _ _ _ _ _) (nZ (hyk k hlt) k).app (zh k)) ?_)));refine aP (k+1) (by omega) ?_ ?_
   ·exact hd [(20000,90)] rfl (aI (aI (dB (by omega)) rfl) (aI (aI rfl rfl) trivial)) ⟨trivial,⟨rfl,trivial⟩,⟨rfl,pR _⟩,trivial⟩
   ·show((ah xs y).2.2.2.2.length-1)-(k+1)<((ah xs y).2.2.2.2.length-1)-k;omega
  have hge2:((ah xs y).2.2.2.2.length-1)≤k:=by
   have q5:decide (((k+1:Nat):Int)<((ah xs y).2.2.2.2.length:Nat))=false:=q4;have q6:((ah xs y).2.2.2.2.length:Nat)≤((k+1:Nat):Int):=by simpa using q5
   omega
  have hke:k=((ah xs y).2.2.2.2.length-1):=by omega
  subst hke;have hll:xs.length≤(gY xs y).length:=by unfold gY;rw[jO];omega
  have hlx2:0≤x∧x<((gY xs y).length:Nat):=by omega
  have hly:0≤y∧y<((gY xs y).length:Nat):=by omega
  refine Or.inr (eI _ (eI _ (aI (kJ (gY xs y) us' x hlx2) ?_)));refine aI (fun _=> ?_) (fun q7=>by have q8:(c !=7)=false:=q7;rw[c4]at q8;cases q8);refine Or.inr (eI _ (eI _ (aI (kJ (bC (gY xs y) x) [] y (by rw[eH];exact hly)) ?_)));refine fin [(10002,20000)] (aI ⟨rfl,rfl⟩ ?_);refine⟨trivial,⟨rfl,trivial⟩,⟨?_,nP⟩,trivial⟩;show bC (bC (gY xs y) x) y=fO bk xs c x y;simp only[fO,gZ,b1,b2,b3,b4,n7,qG,qH]
 refine aI (fun b5=> ?_) (fun b5=> ?_)
 ·have c5:c=5:=by have b:(c==5)=true:=b5;simpa using b
  have n7:(c==7)=false:=by rw[c5];rfl
  obtain⟨j1,j2,j3⟩:=p5 c5;refine Or.inr (eI _ (eI _ (aI (YT xs us' x y hA h0 (by omega) hx0 j1 (k5 c5) j2 j3 dy py.2) ?_)));have hll:xs.length≤(bG xs x y).length:=by exact Bn xs x y
  have hlx2:0≤x∧x<((bG xs x y).length:Nat):=by omega
  have hly:0≤y∧y<((bG xs x y).length:Nat):=by omega
  refine Or.inr (eI _ (eI _ (aI (kJ (bG xs x y) us' x hlx2) ?_)));refine aI (fun _=> ?_) (fun q7=>by have q8:(c !=7)=false:=q7;rw[c5]at q8;cases q8);refine Or.inr (eI _ (eI _ (aI (kJ (bC (bG xs x y) x) [] y (by rw[eH];exact hly)) ?_)));refine fin [(10002,103)] (aI ⟨rfl,rfl⟩ ?_);refine⟨trivial,⟨rfl,trivial⟩,⟨?_,nP⟩,trivial⟩;show bC (bC (bG xs x y) x) y=fO bk xs c x y;simp only[fO,gZ,b1,b2,b3,b4,b5,n7,qG,qH]
 refine aI (fun b6=> ?_) (fun b6=> ?_)
 ·have c6:c=6:=by have b:(c==6)=true:=b6;simpa using b
  have n7:(c==7)=false:=by rw[c6];rfl
  obtain⟨j1,j2,j3⟩:=p6 c6;refine Or.inr (eI _ (eI _ (aI (Uc xs us' x y hA h0 (by omega) hx0 j1 (k6 c6).1 (k6 c6).2 px.2 px.1 dy py.2) ?_)));have hll:xs.length≤(dD xs x y).length:=by exact Cr xs x y
  have hlx2:0≤x∧x<((dD xs x y).length:Nat):=by omega
  have hly:0≤y∧y<((dD xs x y).length:Nat):=by omega
  refine Or.inr (eI _ (eI _ (aI (kJ (dD xs x y) us' x hlx2) ?_)));refine aI (fun _=> ?_) (fun q7=>by have q8:(c !=7)=false:=q7;rw[c6]at q8;cases q8);refine Or.inr (eI _ (eI _ (aI (kJ (bC (dD xs x y) x) [] y (by rw[eH];exact hly)) ?_)));refine fin [(10002,109)] (aI ⟨rfl,rfl⟩ ?_);refine⟨trivial,⟨rfl,trivial⟩,⟨?_,nP⟩,trivial⟩;show bC (bC (dD xs x y) x) y=fO bk xs c x y;simp only[fO,gZ,b1,b2,b3,b4,b5,b6,n7,qG,qH]
 refine aI (fun b7=> ?_) (fun b7=> ?_)
 ·have c7:c=7:=by have b:(c==7)=true:=b7;simpa using b
  have n7:(c==7)=true:=b7;refine aI hx0 ?_;refine aI (h7 c7) ?_;refine Or.inr (eI _ (eI _ (aI (hE c7 us') ?_)));have hll:xs.length≤(eO (bO bk (ah xs x).2.2.1) (ah xs x).2.1 xs y).length:=by unfold eO;rw[jf,qA];omega
  have hlx2:0≤x∧x<((eO (bO bk (ah xs x).2.2.1) (ah xs x).2.1 xs y).length:Nat):=by omega
  have hly:0≤y∧y<((eO (bO bk (ah xs x).2.2.1) (ah xs x).2.1 xs y).length:Nat):=by omega
  refine Or.inr (eI _ (eI _ (aI (kJ (eO (bO bk (ah xs x).2.2.1) (ah xs x).2.1 xs y) us' x hlx2) ?_)));refine aI (fun q7=>by have q8:(c !=7)=true:=q7;rw[c7]at q8;cases q8) (fun _=> ?_);refine fin [(10002,125)] (aI ⟨rfl,rfl⟩ ?_);refine⟨trivial,⟨rfl,trivial⟩,⟨?_,nP⟩,trivial⟩;show bC (eO (bO bk (ah xs x).2.2.1) (ah xs x).2.1 xs y) x=fO bk xs c x y;simp only[fO,gZ,b1,b2,b3,b4,b5,b6,b7,n7,qG,qH]
 ·exfalso;simp at b1 b2 b3 b4 b5 b6 b7;omega
end
section
variable (bk:List (List aj))(xs:List aj)(us:List Value)(pk:Int)(tr:List Int)(a b:Int)(ha:0≤a∧a<(xs.length:Nat))(hb:0≤b∧b<(xs.length:Nat))(hs:∀i:Nat,bE (bO bk i))(hlx:xs.length≤800000)(hv:bK (ah xs (aC xs a b).1) (ah xs (aC xs a b).2)=7→0≤(ah xs (aC xs a b).1).2.2.1)
include ha hb hs hlx hv
theorem WV{g e:Int}(hge:gK bk (ah xs (aC xs a b).1) (ah xs (aC xs a b).2)=(g,e))(he:e≠0):aA Tryz.prog 90 [.rsl aR bk,.ptr 10000 0,.int .i64 a,.int .i64 b] (tB xs us pk tr) (.int .i64 e) (tB xs us pk tr):=by
 have hg:=JO bk xs a b ha hb hs hv;rw[hge]at hg;refine aA.intro (nt:=134) aH mixed LU Tryz.func90 rfl rfl rfl rfl rfl rfl ?_;refine Or.inr (eI _ (eI _ (aI (aA.oh aH [0,61,0,0] w9 hg rfl) ?_)));refine aI (fun q1=> ?_) (fun q1=> ?_)
 ·refine fin [] (aI ⟨rfl,rfl⟩ ?_);exact⟨trivial,⟨rfl,rfl,⟨rfl,rfl⟩,trivial⟩,⟨rfl,pR _⟩,⟨rfl,nP⟩,trivial⟩
 ·have q2:(e !=0)=false:=q1;simp at q2;exact absurd q2 he
theorem Uk{g:Int}(hge:gK bk (ah xs (aC xs a b).1) (ah xs (aC xs a b).2)=(g,0))(hf:600<IntKind.i64.wrap ((bP xs xs.length:Nat)+g)):aA Tryz.prog 90 [.rsl aR bk,.ptr 10000 0,.int .i64 a,.int .i64 b] (tB xs us pk tr) (.int .i64 4) (tB xs us pk tr):=by
 have hg:=JO bk xs a b ha hb hs hv;rw[hge]at hg;refine aA.intro (nt:=134) aH mixed LU Tryz.func90 rfl rfl rfl rfl rfl rfl ?_;refine Or.inr (eI _ (eI _ (aI (aA.oh aH [0,61,0,0] w9 hg rfl) ?_)));refine aI (fun q1=>by cases q1) (fun q1=> ?_);refine Or.inr (eI _ (eI _ (aI (aA.oh aH [61] Ay (J5 xs (by omega)) rfl) ?_)));refine aI (fun q2=> ?_) (fun q2=> ?_)
 ·refine fin [] (aI ⟨rfl,rfl⟩ ?_);exact⟨trivial,⟨rfl,rfl,⟨rfl,rfl⟩,trivial⟩,⟨rfl,pR _⟩,⟨rfl,nP⟩,trivial⟩
 ·have q3:decide (600<IntKind.i64.wrap ((bP xs xs.length:Nat)+g))=false:=q2;simp only[decide_eq_false_iff_not]at q3;exact absurd hf q3
theorem YF{c x y g:Int}(hf:aC xs a b=(x,y))(hc:bK (ah xs x) (ah xs y)=c)(hge:gK bk (ah xs x) (ah xs y)=(g,0))(hc7:1≤c∧c≤7)(hp:GD xs c x y)(hA:aW xs)(h0:ak xs (0,0))(h7:c=7→0≤(ah xs x).2.2.1∧(ah xs x).2.2.1<(bk.length:Nat))(hn:¬600<IntKind.i64.wrap ((bP xs xs.length:Nat)+g))
  (hE:c=7→∀us,aA Tryz.prog 144 [.rp aR (bO bk (ah xs x).2.2.1),.ptr 10000 0,.int .i64 x,.int .i64 y] (tB xs us pk tr) (.tup []) (PS 10003 (eO (bO bk (ah xs x).2.2.1) (ah xs x).2.1 xs y) us pk tr)):
  aA Tryz.prog 90 [.rsl aR bk,.ptr 10000 0,.int .i64 a,.int .i64 b] (tB xs us pk tr) (.int .i64 0) (PS 10003 (fO bk xs c x y) [] pk tr):=by
 have hg:=JO bk xs a b ha hb hs hv;have hfst:=Lu xs a b ha hb;rw[hf]at hg hfst;rw[show(x,y).1=x from rfl,show(x,y).2=y from rfl,hge]at hg;rw[show(x,y).1=x from rfl,show(x,y).2=y from rfl]at hfst;obtain⟨⟨hx0,hy0,p12,p3,px,py,dy,p5,p6⟩,k5,k6⟩:=hp;refine aA.jA 10001 LU ?_;refine aI (fun _ us' hpre hlen=> ?_) (fun h=>absurd rfl h);refine aI (fun h=>absurd h (by decide)) (fun _=> ?_);refine aA.intro (nt:=134) aH mixed LU Tryz.func90 rfl rfl rfl rfl rfl rfl ?_;refine Or.inr (eI _ (eI _ (aI (aA.oh aH [0,61,0,0] w9 hg rfl) ?_)))
 refine aI (fun q1=>by cases q1) (fun q1=> ?_);refine Or.inr (eI _ (eI _ (aI (aA.oh aH [61] Ay (J5 xs (by omega)) rfl) ?_)));refine aI (fun q2=> ?_) (fun q2=> ?_)
 ·have q3:decide (600<IntKind.i64.wrap ((bP xs xs.length:Nat)+g))=true:=q2;simp only[qQ]at q3;exact absurd q3 hn
 refine Or.inr (eI _ (eI _ (aI (aA.oh aH [61,0,0] Dp hfst rfl) ?_)));refine aI hx0 ?_;refine aI hy0 ?_;have hce:=G5 xs us' x y;rw[hc]at hce;refine Or.inr (eI _ (eI _ (aI hce ?_)));refine aI (by kernel_rfl) ?_;refine aI (fun b1=> ?_) (fun b1=> ?_)
 ·have c1:c=1:=by have b:(c==1)=true:=b1;simpa using b
  have n7:(c==7)=false:=by rw[c1];rfl
  refine aI (fun _=> ?_) (fun h=>by rw[show(c==1)=true from b1]at h;cases h);obtain⟨j1,j2,j3,j4⟩:=p12 (.inl c1);refine Or.inl (eI _ (aI (bN _ _) ?_));refine Or.inl (eI _ (aI (bN _ _) ?_));refine Or.inr (eI _ (eI _ (aI (Ny xs us' pk tr (x,1) (y,1) j1 j3 (hA _ j1) (hA _ j3)) ?_)));have hA1:=hA.join j1 j3;refine Or.inl (eI _ (aI (bN _ _) ?_));refine Or.inl (eI _ (aI (bN _ _) ?_));refine Or.inr (eI _ (eI _ (aI (Ny (aU xs (x,1) (y,1)) us' pk tr (x,2) (y,2) j2.join j4.join (hA1 _ j2.join) (hA1 _ j4.join)) ?_)));have hll:xs.length≤(aU (aU xs (x,1) (y,1)) (x,2) (y,2)).length:=by rw[lS,lS];exact Nat.le_refl _
  have hlx2:0≤x∧x<((aU (aU xs (x,1) (y,1)) (x,2) (y,2)).length:Nat):=by omega
  have hly:0≤y∧y<((aU (aU xs (x,1) (y,1)) (x,2) (y,2)).length:Nat):=by omega
  refine Or.inr (eI _ (eI _ (aI (kK (aU (aU xs (x,1) (y,1)) (x,2) (y,2)) us' pk tr x hlx2) ?_)));refine aI (fun _=> ?_) (fun q7=>by have q8:(c !=7)=false:=q7;rw[c1]at q8;cases q8);refine Or.inr (eI _ (eI _ (aI (kK (bC (aU (aU xs (x,1) (y,1)) (x,2) (y,2)) x) [] pk tr y (by rw[eH];exact hly)) ?_)));refine fin [(10003,10001)] (aI ⟨rfl,rfl⟩ ?_);refine⟨trivial,⟨rfl,rfl,⟨rfl,rfl⟩,trivial⟩,⟨?_,nP⟩,⟨rfl,nP⟩,trivial⟩;show bC (bC (aU (aU xs (x,1) (y,1)) (x,2) (y,2)) x) y=fO bk xs c x y;simp only[fO,gZ,b1,n7,qG,qH]
 refine aI (fun b2=> ?_) (fun b2=> ?_)
 ·have c2:c=2:=by have b:(c==2)=true:=b2;simpa using b
  have n7:(c==7)=false:=by rw[c2];rfl
  obtain⟨j1,j2,j3,j4⟩:=p12 (.inr c2);refine Or.inl (eI _ (aI (bN _ _) ?_));refine Or.inl (eI _ (aI (bN _ _) ?_));refine Or.inr (eI _ (eI _ (aI (Ny xs us' pk tr (x,1) (y,1) j1 j3 (hA _ j1) (hA _ j3)) ?_)));have hA1:=hA.join j1 j3;refine Or.inl (eI _ (aI (bN _ _) ?_));refine Or.inl (eI _ (aI (bN _ _) ?_));refine Or.inr (eI _ (eI _ (aI (Ny (aU xs (x,1) (y,1)) us' pk tr (x,2) (y,2) j2.join j4.join (hA1 _ j2.join) (hA1 _ j4.join)) ?_)));have hll:xs.length≤(aU (aU xs (x,1) (y,1)) (x,2) (y,2)).length:=by rw[lS,lS];exact Nat.le_refl _
  have hlx2:0≤x∧x<((aU (aU xs (x,1) (y,1)) (x,2) (y,2)).length:Nat):=by omega
  have hly:0≤y∧y<((aU (aU xs (x,1) (y,1)) (x,2) (y,2)).length:Nat):=by omega
  refine Or.inr (eI _ (eI _ (aI (kK (aU (aU xs (x,1) (y,1)) (x,2) (y,2)) us' pk tr x hlx2) ?_)));refine aI (fun _=> ?_) (fun q7=>by have q8:(c !=7)=false:=q7;rw[c2]at q8;cases q8);refine Or.inr (eI _ (eI _ (aI (kK (bC (aU (aU xs (x,1) (y,1)) (x,2) (y,2)) x) [] pk tr y (by rw[eH];exact hly)) ?_)));refine fin [(10003,10001)] (aI ⟨rfl,rfl⟩ ?_);refine⟨trivial,⟨rfl,rfl,⟨rfl,rfl⟩,trivial⟩,⟨?_,nP⟩,⟨rfl,nP⟩,trivial⟩;show bC (bC (aU (aU xs (x,1) (y,1)) (x,2) (y,2)) x) y=fO bk xs c x y;simp only[fO,gZ,b1,b2,n7,qG,qH]
 refine aI (fun b3=> ?_) (fun b3=> ?_)
 ·have c3:c=3:=by have b:(c==3)=true:=b3;simpa using b
  have n7:(c==7)=false:=by rw[c3];rfl
  obtain⟨j1,j2⟩:=p3 c3;refine Or.inr (eI _ (eI _ (aI (YG xs us' pk tr x y hA h0 (by omega) j1 j2 hy0 py.2 dy py.1) ?_)));have hll:xs.length≤(bI xs x y).length:=by exact xO xs x y
  have hlx2:0≤x∧x<((bI xs x y).length:Nat):=by omega
  have hly:0≤y∧y<((bI xs x y).length:Nat):=by omega
  refine Or.inr (eI _ (eI _ (aI (kK (bI xs x y) us' pk tr x hlx2) ?_)));refine aI (fun _=> ?_) (fun q7=>by have q8:(c !=7)=false:=q7;rw[c3]at q8;cases q8);refine Or.inr (eI _ (eI _ (aI (kK (bC (bI xs x y) x) [] pk tr y (by rw[eH];exact hly)) ?_)));refine fin [(10003,72)] (aI ⟨rfl,rfl⟩ ?_);refine⟨trivial,⟨rfl,rfl,⟨rfl,rfl⟩,trivial⟩,⟨?_,nP⟩,⟨rfl,nP⟩,trivial⟩;show bC (bC (bI xs x y) x) y=fO bk xs c x y;simp only[fO,gZ,b1,b2,b3,n7,qG,qH]
 refine aI (fun b4=> ?_) (fun b4=> ?_)
 ·have c4:c=4:=by have b:(c==4)=true:=b4;simpa using b
  have n7:(c==7)=false:=by rw[c4];rfl
  have hyk:∀i:Nat,i<((ah xs y).2.2.2.2.length-1)→ak xs (y,((i+1:Nat):Int)):=fun i hi=>⟨hy0.1,hy0.2,by omega,by show((i+1:Nat):Int)<((ah xs y).2.2.2.2.length:Nat);omega⟩
  refine aI hy0 ?_;refine aI (sJ hlen hy0.1 hy0.2) ?_;refine lp Nat (fun k=>[(13,.int .i64 ((k+1:Nat):Int)),(12,.int .i64 ((ah xs y).2.2.2.2.length:Nat))]) (fun k=>[.bV 10000 66 [.sl 20000,.sl 10002,.int .i64 pk],.row 20000 131 5 aD (rU y xs k) us',.row 10002 2 1 (.int .i64) tr []]) (fun k=>((ah xs y).2.2.2.2.length-1)-k) (fun k=>k≤((ah xs y).2.2.2.2.length-1)) 0 (Nat.zero_le _) ?_ ?_
  ·exact hd [(20000,10001)] rfl (aI (aI rfl rfl) (aI (aI rfl rfl) trivial)) ⟨trivial,⟨rfl,rfl,⟨rfl,rfl⟩,trivial⟩,⟨rfl,pR _⟩,⟨rfl,nP⟩,trivial⟩
  intro k hk;refine aI (fun q4=> ?_) (fun q4=> ?_)
  ·have hlt:k<((ah xs y).2.2.2.2.length-1):=by
    have q5:decide (((k+1:Nat):Int)<((ah xs y).2.2.2.2.length:Nat))=true:=q4;have q6:((k+1:Nat):Int)<((ah xs y).2.2.2.2.length:Nat):=by simpa using q5
    omega
   have hadd:=uG (rU y xs k) us' pk tr 5 0 0 1 (by rw[jO];omega) (by omega);rw[jO]at hadd;refine Or.inr (eI _ (eI _ (aI hadd ?_)));refine Or.inl (eI _ (aI (bN _ _) ?_));refine Or.inl (eI _ (aI (bN _ _) ?_));refine Or.inr (eI _ (eI _ (aI (moveB (rU y xs k++[bB 5 0 0 [] 1]) us' pk tr (y,((k+1:Nat):Int)) (((xs.length+k:Nat):Int),0) ((wT hA h0 k fun i hi=>hyk i (by omega)).add (nZ h0 k) _ _ _ _ _) (nZ (hyk k hlt) k).app (zh k)) ?_)));refine aP (k+1) (by omega) ?_ ?_
   ·exact hd [(20000,90)] rfl (aI (aI (dB (by omega)) rfl) (aI (aI rfl rfl) trivial)) ⟨trivial,⟨rfl,rfl,⟨rfl,rfl⟩,trivial⟩,⟨rfl,pR _⟩,⟨rfl,nP⟩,trivial⟩
   ·show((ah xs y).2.2.2.2.length-1)-(k+1)<((ah xs y).2.2.2.2.length-1)-k;omega
  have hge2:((ah xs y).2.2.2.2.length-1)≤k:=by
   have q5:decide (((k+1:Nat):Int)<((ah xs y).2.2.2.2.length:Nat))=false:=q4;have q6:((ah xs y).2.2.2.2.length:Nat)≤((k+1:Nat):Int):=by simpa using q5
   omega
  have hke:k=((ah xs y).2.2.2.2.length-1):=by omega
  subst hke;have hll:xs.length≤(gY xs y).length:=by unfold gY;rw[jO];omega
  have hlx2:0≤x∧x<((gY xs y).length:Nat):=by omega
  have hly:0≤y∧y<((gY xs y).length:Nat):=by omega
  refine Or.inr (eI _ (eI _ (aI (kK (gY xs y) us' pk tr x hlx2) ?_)));refine aI (fun _=> ?_) (fun q7=>by have q8:(c !=7)=false:=q7;rw[c4]at q8;cases q8);refine Or.inr (eI _ (eI _ (aI (kK (bC (gY xs y) x) [] pk tr y (by rw[eH];exact hly)) ?_)));refine fin [(10003,20000)] (aI ⟨rfl,rfl⟩ ?_);refine⟨trivial,⟨rfl,rfl,⟨rfl,rfl⟩,trivial⟩,⟨?_,nP⟩,⟨rfl,nP⟩,trivial⟩;show bC (bC (gY xs y) x) y=fO bk xs c x y;simp only[fO,gZ,b1,b2,b3,b4,n7,qG,qH]
 refine aI (fun b5=> ?_) (fun b5=> ?_)
 ·have c5:c=5:=by have b:(c==5)=true:=b5;simpa using b
  have n7:(c==7)=false:=by rw[c5];rfl
  obtain⟨j1,j2,j3⟩:=p5 c5;refine Or.inr (eI _ (eI _ (aI (jQ xs us' pk tr x y hA h0 (by omega) hx0 j1 (k5 c5) j2 j3 dy py.2) ?_)));have hll:xs.length≤(bG xs x y).length:=by exact Bn xs x y
  have hlx2:0≤x∧x<((bG xs x y).length:Nat):=by omega
  have hly:0≤y∧y<((bG xs x y).length:Nat):=by omega
  refine Or.inr (eI _ (eI _ (aI (kK (bG xs x y) us' pk tr x hlx2) ?_)));refine aI (fun _=> ?_) (fun q7=>by have q8:(c !=7)=false:=q7;rw[c5]at q8;cases q8);refine Or.inr (eI _ (eI _ (aI (kK (bC (bG xs x y) x) [] pk tr y (by rw[eH];exact hly)) ?_)));refine fin [(10003,103)] (aI ⟨rfl,rfl⟩ ?_);refine⟨trivial,⟨rfl,rfl,⟨rfl,rfl⟩,trivial⟩,⟨?_,nP⟩,⟨rfl,nP⟩,trivial⟩;show bC (bC (bG xs x y) x) y=fO bk xs c x y;simp only[fO,gZ,b1,b2,b3,b4,b5,n7,qG,qH]
 refine aI (fun b6=> ?_) (fun b6=> ?_)
 ·have c6:c=6:=by have b:(c==6)=true:=b6;simpa using b
  have n7:(c==7)=false:=by rw[c6];rfl
  obtain⟨j1,j2,j3⟩:=p6 c6;refine Or.inr (eI _ (eI _ (aI (Ud xs us' pk tr x y hA h0 (by omega) hx0 j1 (k6 c6).1 (k6 c6).2 px.2 px.1 dy py.2) ?_)));have hll:xs.length≤(dD xs x y).length:=by exact Cr xs x y
  have hlx2:0≤x∧x<((dD xs x y).length:Nat):=by omega
  have hly:0≤y∧y<((dD xs x y).length:Nat):=by omega
  refine Or.inr (eI _ (eI _ (aI (kK (dD xs x y) us' pk tr x hlx2) ?_)));refine aI (fun _=> ?_) (fun q7=>by have q8:(c !=7)=false:=q7;rw[c6]at q8;cases q8);refine Or.inr (eI _ (eI _ (aI (kK (bC (dD xs x y) x) [] pk tr y (by rw[eH];exact hly)) ?_)));refine fin [(10003,109)] (aI ⟨rfl,rfl⟩ ?_);refine⟨trivial,⟨rfl,rfl,⟨rfl,rfl⟩,trivial⟩,⟨?_,nP⟩,⟨rfl,nP⟩,trivial⟩;show bC (bC (dD xs x y) x) y=fO bk xs c x y;simp only[fO,gZ,b1,b2,b3,b4,b5,b6,n7,qG,qH]
 refine aI (fun b7=> ?_) (fun b7=> ?_)
 ·have c7:c=7:=by have b:(c==7)=true:=b7;simpa using b
  have n7:(c==7)=true:=b7;refine aI hx0 ?_;refine aI (h7 c7) ?_;refine Or.inr (eI _ (eI _ (aI (hE c7 us') ?_)));have hll:xs.length≤(eO (bO bk (ah xs x).2.2.1) (ah xs x).2.1 xs y).length:=by unfold eO;rw[jf,qA];omega
  have hlx2:0≤x∧x<((eO (bO bk (ah xs x).2.2.1) (ah xs x).2.1 xs y).length:Nat):=by omega
  have hly:0≤y∧y<((eO (bO bk (ah xs x).2.2.1) (ah xs x).2.1 xs y).length:Nat):=by omega
  refine Or.inr (eI _ (eI _ (aI (kK (eO (bO bk (ah xs x).2.2.1) (ah xs x).2.1 xs y) us' pk tr x hlx2) ?_)));refine aI (fun q7=>by have q8:(c !=7)=true:=q7;rw[c7]at q8;cases q8) (fun _=> ?_);refine fin [(10003,125)] (aI ⟨rfl,rfl⟩ ?_);refine⟨trivial,⟨rfl,rfl,⟨rfl,rfl⟩,trivial⟩,⟨?_,nP⟩,⟨rfl,nP⟩,trivial⟩;show bC (eO (bO bk (ah xs x).2.2.1) (ah xs x).2.1 xs y) x=fO bk xs c x y;simp only[fO,gZ,b1,b2,b3,b4,b5,b6,b7,n7,qG,qH]
 ·exfalso;simp at b1 b2 b3 b4 b5 b6 b7;omega
end
end Go.Proofs.YtjijpkphkicoeaaGreat
namespace Go.Proofs.YtjijpkphkicoeaaGreat
open Go Go.RowKit Go.Proofs Go.Tr
def Td(xs:List aj)(k:Int):Bool:=bif dX k 0 ((xs.length:Int)-1)then(ah xs k).1 !=0 else false
def TT(xs:List aj)(a b:Int):Bool:=
 bif (bif decide (0<a)then decide (a<b)else false)then gG [(elt (dflt aM) (ah xs a).2.2.2.2 0).1,(elt (dflt aM) (ah xs a).2.2.2.2 0).2] [b,0]else false
section
variable (bk:List (List aj))(xs:List aj)(us:List Value)(a b:Int)(ha:0≤a∧a<(xs.length:Nat))(hb:0≤b∧b<(xs.length:Nat))
include ha hb
end
end Go.Proofs.YtjijpkphkicoeaaGreat
namespace Go.Proofs.YtjijpkphkicoeaaGreat
open Go Go.RowKit Go.Proofs Go.Tr
section
variable (bk:List (List aj))(xs:List aj)(us:List Value)(e:bZ)(hl:xs.length≤1000000)
include hl
variable (ha:Td xs e.1=true)(hb:Td xs e.2.1=true)(hp:0<(ah xs e.1).2.2.2.2.length)
include ha hb hp
variable (h:TT xs e.1 e.2.1=true)
include h
end
end Go.Proofs.YtjijpkphkicoeaaGreat
