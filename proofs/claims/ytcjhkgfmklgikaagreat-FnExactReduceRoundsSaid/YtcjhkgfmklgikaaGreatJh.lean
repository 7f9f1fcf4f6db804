
/- The reference's nets: wires, new agents, holes. -/
import Derived.Test.YtcjhkgfmklgikaaGreatShort
import Derived.Test.YtcjhkgfmklgikaaGreatProg
import Derived.Test.YtcjhkgfmklgikaaGreatVti
import Derived.Test.YtcjhkgfmklgikaaGreatNy
import Derived.Test.YtcjhkgfmklgikaaGreatIo
import Derived.Test.YtcjhkgfmklgikaaGreatVV
set_option maxHeartbeats 4000000
set_option maxRecDepth 100000
set_option linter.unusedSimpArgs false
set_option linter.unusedVariables false
set_option linter.unusedSectionVars false
namespace Go.Proofs.YtcjhkgfmklgikaaGreat
open Go Go.RowKit Go.Proofs Go.Tr
theorem BM:bK Tryz.prog 146=true:=by kernel_rfl
theorem Hf:bK Tryz.prog 87=true:=by kernel_rfl
theorem M7:bK Tryz.prog 109=true:=by kernel_rfl
theorem M6:bK Tryz.prog 106=true:=by kernel_rfl
theorem FD:bK Tryz.prog 113=true:=by kernel_rfl
theorem He:bK Tryz.prog 108=true:=by kernel_rfl
theorem bM(a b:Int):aN Tryz.prog 88 [.int .i64 a,.int .i64 b] (.agg [.int .i64 a,.int .i64 b]):=by
 refine aN.intro (nt:=8) aJ mixed (by kernel_rfl) Tryz.func88 rfl rfl rfl rfl rfl ?_;exact rfl
theorem Bh(xs:List aj)(p:aD)(hp:ak xs p):aN Tryz.prog 87 [.rp bO xs,vP p] (vP (au xs p)):=by
 obtain⟨p1,p2,p3,p4⟩:=hp;refine aN.intro (nt:=18) aJ mixed Hf Tryz.func87 rfl rfl rfl rfl rfl ?_;refine aI ⟨p1,p2⟩ ?_;refine aI ⟨p3,p4⟩ ?_;refine aI (by kernel_rfl) ?_;exact rfl
theorem QY:bK Tryz.prog 102=true:=by kernel_rfl
theorem VU(xs:List Int)(hx:xs.length≤1048576):aA Tryz.prog 102 [.rsl (.int .i64) xs] [] (.sl 10000) [.row 10000 2 1 (.int .i64) xs []]:=by
 refine aA.intro (nt:=6) aJ mixed QY Tryz.func102 rfl rfl rfl rfl rfl rfl ?_;refine aI (by show 0+xs.length≤_;omega) ?_;refine fin [(10000,5)] (aI rfl ?_);exact⟨⟨rfl,nP⟩,trivial⟩
theorem Ng:aA Tryz.prog 102 [.raw (.slice none 0 0)] [] (.sl 10000) [.row 10000 2 1 (.int .i64) [] []]:=aA.of_nil (VU [] (by simp))
theorem Nh(ds:List Int)(hd:ds.length≤1048576):aA Tryz.prog 102 [.sl 10000] [.row 10000 2 1 (.int .i64) ds []] (.sl 10001) [.row 10001 2 1 (.int .i64) ds [],.row 10000 2 1 (.int .i64) ds []]:=
 aA.Ey (ts2:=[.row 10001 2 1 (.int .i64) ds []]) aJ [0] QY (VU ds hd) rfl rfl rfl
theorem Jz:bK Tryz.prog 56=true:=by kernel_rfl
theorem Ht(x:aj)(h1:x.2.2.2.1.length≤1048576)(h2:x.2.2.2.2.length≤1048576):aA Tryz.prog 56 [.rp aG x] [] (.agg [.int .i64 x.1,.int .i64 x.2.1,.int .i64 x.2.2.1,.sl 10000,.sl 10001]) [.row 10000 2 1 (.int .i64) x.2.2.2.1 [],.row 10001 86 2 aR x.2.2.2.2 []]:=by
 refine aA.intro (nt:=27) aJ mixed Jz Tryz.func56 rfl rfl rfl rfl rfl rfl ?_;refine Or.inr (eI _ (eI _ (aI (VU _ h1) ?_)));refine aI (by show 0+x.2.2.2.2.length≤_;omega) ?_;refine aI (by kernel_rfl) ?_;refine fin [(10000,19),(10001,25)] (aI rfl ?_);exact⟨⟨rfl,nP⟩,⟨rfl,nP⟩,trivial⟩
theorem Aq(xs:List aj)(us:List Value)(i:Int)(h1:(ah xs i).2.2.2.1.length≤1048576)(h2:(ah xs i).2.2.2.2.length≤1048576):aA Tryz.prog 56 [.ep 10000 5 i 0] [.row 10000 111 5 aG xs us] (.agg [.int .i64 (ah xs i).1,.int .i64 (ah xs i).2.1,.int .i64 (ah xs i).2.2.1,.sl 10001,.sl 10002]) [.row 10001 2 1 (.int .i64) (ah xs i).2.2.2.1 [],.row 10002 86 2 aR (ah xs i).2.2.2.2 [],.row 10000 111 5 aG xs us]:=
 aA.Ey (ts2:=[.row 10001 2 1 (.int .i64) (ah xs i).2.2.2.1 [],.row 10002 86 2 aR (ah xs i).2.2.2.2 []]) aJ [0] Jz (Ht (ah xs i) h1 h2) rfl rfl rfl
abbrev tA(xs:List aj)(us:List Value):List Tok:=[.dD 10000 30 [.sl 10001],.row 10001 111 5 aG xs us]
abbrev J3(g:Nat)(xs:List aj)(us:List Value):List Tok:=[.dD 10000 30 [.sl g],.row g 111 5 aG xs us]
theorem Fq(xs:List aj)(us:List Value)(p q:aD)(hp:ak xs p)(hq:ak xs q):aA Tryz.prog 146 [.ptr 10000 0,vP p,vP q] (tA xs us) (.tup []) (tA (bL xs p q) us):=by
 refine aA.expose BM ?_;intro us' hpre hlen
 skip
 have hq':ak (aL xs p q) q:=hq.set;obtain⟨p1,p2,p3,p4⟩:=hp;obtain⟨q1,q2,q3,q4⟩:=hq';have q2':q.1<(xs.length:Nat):=by rwa[cK]at q2
 refine aA.intro (nt:=32) aJ mixed BM Tryz.func146 rfl rfl rfl rfl rfl rfl ?_;refine aI ⟨p1,p2⟩ ?_;refine aI (sJ hlen p1 p2) ?_;refine aI ⟨p3,p4⟩ ?_;refine eI 10001 (aI ⟨⟨p1,p2,rJ hlen p1 p2 (by decide)⟩,p3,p4⟩ ?_);refine aI (by kernel_rfl) ?_;refine aI ⟨q1,q2⟩ ?_;refine aI (sJ hlen q1 q2') ?_;refine aI ⟨q3,q4⟩ ?_;refine eI 10001 (aI ⟨⟨q1,q2,rJ hlen q1 q2' (by decide)⟩,q3,q4⟩ ?_);refine aI (by kernel_rfl) ?_;refine fin [] (aI rfl ?_);exact⟨trivial,⟨rfl,trivial⟩,⟨rfl,hpre⟩,trivial⟩
theorem Rh(xs:List aj)(us:List Value)(p:aD)(hp:ak xs p):aA Tryz.prog 87 [.ptr 10000 0,vP p] (tA xs us) (vP (au xs p)) (tA xs us):=
 aA.o9 aJ [51,0] Hf (Bh xs p hp) rfl
theorem moveA(xs:List aj)(us:List Value)(p q:aD)(hA:bf xs)(hp:ak xs p)(hq:ak xs q):aA Tryz.prog 109 [.ptr 10000 0,vP p,vP q] (tA xs us) (.tup []) (tA (dA xs p q) us):=by
 have hl:=Fq xs us q (au xs p) hq (hA p hp);rw[uP hq (hA p hp)]at hl;refine aA.intro (nt:=12) aJ mixed M7 Tryz.func109 rfl rfl rfl rfl rfl rfl ?_;refine Or.inr (eI _ (eI _ (aI (Rh xs us p hp) ?_)));refine Or.inr (eI _ (eI _ (aI hl ?_)));refine aI (by kernel_rfl) ?_;refine fin [] (aI rfl ?_);exact⟨trivial,⟨rfl,trivial⟩,⟨rfl,pR _⟩,trivial⟩
theorem MJ(xs:List aj)(us:List Value)(p q:aD)(hp:ak xs p)(hq:ak xs q)(hr:ak xs (au xs p))(hs:ak xs (au xs q)):aA Tryz.prog 106 [.ptr 10000 0,vP p,vP q] (tA xs us) (.tup []) (tA (aV xs p q) us):=by
 refine aA.intro (nt:=21) aJ mixed M6 Tryz.func106 rfl rfl rfl rfl rfl rfl ?_;refine Or.inr (eI _ (eI _ (aI (Rh xs us p hp) ?_)));refine Or.inr (eI _ (eI _ (aI (Rh xs us q hq) ?_)));refine aI ⟨by kernel_rfl,rfl⟩ ?_;refine aI (fun h1=> ?_) (fun h1=> ?_)
 ·refine Or.inr (eI _ (eI _ (aI (Fq xs us (au xs p) (au xs q) hr hs) ?_)));refine fin [] (aI rfl ?_);refine⟨trivial,⟨rfl,trivial⟩,⟨?_,pR _⟩,trivial⟩;have h1:(!gL [(au xs p).1,(au xs p).2] [q.1,q.2])=true:=h1
  have h2:((au xs p).1==q.1&&(au xs p).2==q.2)=false:=by
   cases hc:((au xs p).1==q.1&&(au xs p).2==q.2)with
   |false=>rfl
   |true=>simp[gL,hc]at h1
  show bL xs (au xs p) (au xs q)=_;unfold aV;rw[h2];rfl
 ·refine fin [] (aI rfl ?_);refine⟨trivial,⟨rfl,trivial⟩,⟨?_,pR _⟩,trivial⟩;have h1:(!gL [(au xs p).1,(au xs p).2] [q.1,q.2])=false:=h1;have h2:((au xs p).1==q.1&&(au xs p).2==q.2)=true:=by simpa[gL]using h1
  show xs=_;unfold aV;rw[h2];rfl
theorem kI(xs:List aj)(us:List Value)(a:Int)(ha:0≤a∧a<(xs.length:Nat)):aA Tryz.prog 113 [.ptr 10000 0,.int .i64 a] (tA xs us) (.tup []) (tA (bC xs a) []):=by
 refine aA.intro (nt:=11) aJ mixed FD Tryz.func113 rfl rfl rfl rfl rfl rfl ?_;refine aI ha ?_;refine fin [] (aI rfl ?_);exact⟨trivial,⟨rfl,trivial⟩,⟨rfl,nP⟩,trivial⟩
theorem uF(xs:List aj)(us:List Value)(k l v:Int)(n:Nat)(hl:xs.length≤1000000)(hn:n≤1000000):aA Tryz.prog 108 [.ptr 10000 0,.int .i64 k,.int .i64 l,.int .i64 v,.raw (.slice none 0 0),.int .i64 (n:Nat)] (tA xs us) (.int .i64 (xs.length:Nat)) (J3 10002 (xs++[bg k l v [] n]) us):=by
 refine aA.intro (nt:=48) aJ mixed He Tryz.func108 rfl rfl rfl rfl rfl rfl ?_;refine Or.inr (eI _ (eI _ (aI Ng ?_)))
 refine lp Nat (fun j=>[(14,.int .i64 ((n:Nat)-(j:Nat)))])
  (fun j=>match j with|0=>[.dD 13 111 [.int .i64 k,.int .i64 l,.int .i64 v,.sl 19,.raw (.slice none 0 0)],.dD 10000 30 [.sl 10001],.row 10001 111 5 aG xs us,.row 19 2 1 (.int .i64) [] []]|j+1=>[.dD 13 111 [.int .i64 k,.int .i64 l,.int .i64 v,.sl 19,.sl 20001],.dD 10000 30 [.sl 10001],.row 10001 111 5 aG xs us,.row 19 2 1 (.int .i64) [] [],.row 20001 86 2 aR (List.replicate (j+1) (0,0)) []])
  (fun j=>n-j) (fun j=>j≤n) 0 (Nat.zero_le _) ?_ ?_
 ·exact hd [] rfl (aI (aI (Int.sub_zero _).symm rfl) trivial) ⟨trivial,⟨⟨rfl,rfl⟩,⟨rfl,rfl⟩,⟨rfl,rfl⟩,rfl,rfl,trivial⟩,trivial,⟨rfl,trivial⟩,⟨rfl,pR _⟩,⟨rfl,nP⟩,trivial⟩
 intro j hj;have hwr:IntKind.i64.wrap ((n:Nat)-(j:Nat)-1)=(n:Nat)-((j+1:Nat):Int):=by rw[qO _ (by omega)];omega
 cases j with
 |zero=>
  refine aI (fun q1=> ?_) (fun q1=> ?_)
  ·have hlt:0<n:=by have q2:decide ((0:Int)<(n:Nat)-((0:Nat):Int))=true:=q1;simp at q2;omega
   refine aI (by show 1≤1073741824;omega) ?_;refine bB 1 (by omega) ?_ ?_
   ·exact hd [(20001,30)] rfl (aI (aI hwr rfl) trivial) ⟨trivial,⟨⟨rfl,rfl⟩,⟨rfl,rfl⟩,⟨rfl,rfl⟩,rfl,rfl,trivial⟩,trivial,⟨rfl,trivial⟩,⟨rfl,pR _⟩,⟨rfl,nP⟩,⟨rfl,nP⟩,trivial⟩
   ·show n-1<n-0;omega
  ·have hn0:n=0:=by have q2:decide ((0:Int)<(n:Nat)-((0:Nat):Int))=false:=q1;simp at q2;omega
   refine aI (by show xs.length+1≤_;omega) ?_;refine aI (by kernel_rfl) ?_;refine fin [(10002,39)] (aI ?_ ?_)
   ·show IntKind.i64.wrap (((xs++[_]).length:Nat)-1)=((xs.length:Nat):Int)∧IntKind.i64=IntKind.i64;rw[qA,qJ,qO _ (by omega)];exact⟨by omega,rfl⟩
   ·refine⟨trivial,⟨rfl,trivial⟩,⟨?_,pR _⟩,trivial⟩;show xs++[(k,l,v,[],[])]=xs++[bg k l v [] n];unfold bg;rw[hn0];rfl
 |succ j=>
  refine aI (fun q1=> ?_) (fun q1=> ?_)
  ·have hlt:j+1<n:=by have q2:decide ((0:Int)<(n:Nat)-((j+1:Nat):Int))=true:=q1;simp at q2;omega
   refine aI (by show(List.replicate (j+1) ((0:Int),(0:Int))).length+1≤1073741824;rw[List.length_replicate];omega) ?_;refine bB (j+2) (by omega) ?_ ?_
   ·refine hd [(20001,30)] rfl (aI (aI hwr rfl) trivial) ⟨trivial,⟨⟨rfl,rfl⟩,⟨rfl,rfl⟩,⟨rfl,rfl⟩,rfl,rfl,trivial⟩,trivial,⟨rfl,trivial⟩,⟨rfl,pR _⟩,⟨rfl,nP⟩,⟨?_,nP⟩,trivial⟩;show List.replicate (j+1) ((0:Int),(0:Int))++[(0,0)]=List.replicate (j+1+1) (0,0);rw[List.replicate_succ' (n:=j+1)]
   ·show n-(j+2)<n-(j+1);omega
  ·have hn0:n=j+1:=by have q2:decide ((0:Int)<(n:Nat)-((j+1:Nat):Int))=false:=q1;simp at q2;omega
   refine aI (by show xs.length+1≤_;omega) ?_;refine aI (by kernel_rfl) ?_;refine fin [(10002,39)] (aI ?_ ?_)
   ·show IntKind.i64.wrap (((xs++[_]).length:Nat)-1)=((xs.length:Nat):Int)∧IntKind.i64=IntKind.i64;rw[qA,qJ,qO _ (by omega)];exact⟨by omega,rfl⟩
   ·refine⟨trivial,⟨rfl,trivial⟩,⟨?_,pR _⟩,trivial⟩;show xs++[(k,l,v,[],List.replicate (j+1) (0,0))]=xs++[bg k l v [] n];unfold bg;rw[hn0]
theorem Gb(xs:List aj)(us:List Value)(k l v:Int)(n:Nat)(ds:List Int)(hl:xs.length≤1000000)(hn:n≤1000000)(hd0:ds.length≤1000000):aA Tryz.prog 108 [.ptr 10000 0,.int .i64 k,.int .i64 l,.int .i64 v,.sl 10002,.int .i64 (n:Nat)] (tA xs us++[.row 10002 2 1 (.int .i64) ds []]) (.int .i64 (xs.length:Nat)) (J3 10003 (xs++[bg k l v ds n]) us++[.row 10002 2 1 (.int .i64) ds []]):=by
 refine aA.intro (nt:=48) aJ mixed He Tryz.func108 rfl rfl rfl rfl rfl rfl ?_;refine Or.inr (eI _ (eI _ (aI (Nh ds (by omega)) ?_)))
 refine lp Nat (fun j=>[(14,.int .i64 ((n:Nat)-(j:Nat)))])
  (fun j=>match j with|0=>[.dD 13 111 [.int .i64 k,.int .i64 l,.int .i64 v,.sl 19,.raw (.slice none 0 0)],.dD 10000 30 [.sl 10001],.row 10001 111 5 aG xs us,.row 10002 2 1 (.int .i64) ds [],.row 19 2 1 (.int .i64) ds []]|j+1=>[.dD 13 111 [.int .i64 k,.int .i64 l,.int .i64 v,.sl 19,.sl 20001],.dD 10000 30 [.sl 10001],.row 10001 111 5 aG xs us,.row 10002 2 1 (.int .i64) ds [],.row 19 2 1 (.int .i64) ds [],.row 20001 86 2 aR (List.replicate (j+1) (0,0)) []])
  (fun j=>n-j) (fun j=>j≤n) 0 (Nat.zero_le _) ?_ ?_
 ·exact hd [] rfl (aI (aI (Int.sub_zero _).symm rfl) trivial) ⟨trivial,⟨⟨rfl,rfl⟩,⟨rfl,rfl⟩,⟨rfl,rfl⟩,rfl,rfl,trivial⟩,trivial,⟨rfl,trivial⟩,⟨rfl,pR _⟩,⟨rfl,nP⟩,⟨rfl,nP⟩,trivial⟩
 intro j hj;have hwr:IntKind.i64.wrap ((n:Nat)-(j:Nat)-1)=(n:Nat)-((j+1:Nat):Int):=by rw[qO _ (by omega)];omega
 cases j with
 |zero=>
  refine aI (fun q1=> ?_) (fun q1=> ?_)
  ·have hlt:0<n:=by have q2:decide ((0:Int)<(n:Nat)-((0:Nat):Int))=true:=q1;simp at q2;omega
   refine aI (by show 1≤1073741824;omega) ?_;refine bB 1 (by omega) ?_ ?_
   ·exact hd [(20001,30)] rfl (aI (aI hwr rfl) trivial) ⟨trivial,⟨⟨rfl,rfl⟩,⟨rfl,rfl⟩,⟨rfl,rfl⟩,rfl,rfl,trivial⟩,trivial,⟨rfl,trivial⟩,⟨rfl,pR _⟩,⟨rfl,nP⟩,⟨rfl,nP⟩,⟨rfl,nP⟩,trivial⟩
   ·show n-1<n-0;omega
  ·have hn0:n=0:=by have q2:decide ((0:Int)<(n:Nat)-((0:Nat):Int))=false:=q1;simp at q2;omega
   refine aI (by show xs.length+1≤_;omega) ?_;refine aI (by kernel_rfl) ?_;refine fin [(10003,39)] (aI ?_ ?_)
   ·show IntKind.i64.wrap (((xs++[_]).length:Nat)-1)=((xs.length:Nat):Int)∧IntKind.i64=IntKind.i64;rw[qA,qJ,qO _ (by omega)];exact⟨by omega,rfl⟩
   ·refine⟨trivial,⟨rfl,trivial⟩,⟨?_,pR _⟩,⟨rfl,nP⟩,trivial⟩;show xs++[(k,l,v,ds,[])]=xs++[bg k l v ds n];unfold bg;rw[hn0];rfl
 |succ j=>
  refine aI (fun q1=> ?_) (fun q1=> ?_)
  ·have hlt:j+1<n:=by have q2:decide ((0:Int)<(n:Nat)-((j+1:Nat):Int))=true:=q1;simp at q2;omega
   refine aI (by show(List.replicate (j+1) ((0:Int),(0:Int))).length+1≤1073741824;rw[List.length_replicate];omega) ?_;refine bB (j+2) (by omega) ?_ ?_
   ·refine hd [(20001,30)] rfl (aI (aI hwr rfl) trivial) ⟨trivial,⟨⟨rfl,rfl⟩,⟨rfl,rfl⟩,⟨rfl,rfl⟩,rfl,rfl,trivial⟩,trivial,⟨rfl,trivial⟩,⟨rfl,pR _⟩,⟨rfl,nP⟩,⟨rfl,nP⟩,⟨?_,nP⟩,trivial⟩;show List.replicate (j+1) ((0:Int),(0:Int))++[(0,0)]=List.replicate (j+1+1) (0,0);rw[List.replicate_succ' (n:=j+1)]
   ·show n-(j+2)<n-(j+1);omega
  ·have hn0:n=j+1:=by have q2:decide ((0:Int)<(n:Nat)-((j+1:Nat):Int))=false:=q1;simp at q2;omega
   refine aI (by show xs.length+1≤_;omega) ?_;refine aI (by kernel_rfl) ?_;refine fin [(10003,39)] (aI ?_ ?_)
   ·show IntKind.i64.wrap (((xs++[_]).length:Nat)-1)=((xs.length:Nat):Int)∧IntKind.i64=IntKind.i64;rw[qA,qJ,qO _ (by omega)];exact⟨by omega,rfl⟩
   ·refine⟨trivial,⟨rfl,trivial⟩,⟨?_,pR _⟩,⟨rfl,nP⟩,trivial⟩;show xs++[(k,l,v,ds,List.replicate (j+1) (0,0))]=xs++[bg k l v ds n];unfold bg;rw[hn0]
abbrev tB(xs:List aj)(us:List Value)(pk:Int)(tr:List Int):List Tok:=[.dD 10000 56 [.sl 10001,.sl 10002,.int .i64 pk],.row 10001 111 5 aG xs us,.row 10002 2 1 (.int .i64) tr []]
abbrev U5(g:Nat)(xs:List aj)(us:List Value)(pk:Int)(tr:List Int):List Tok:=[.dD 10000 56 [.sl g,.sl 10002,.int .i64 pk],.row g 111 5 aG xs us,.row 10002 2 1 (.int .i64) tr []]
theorem Fu(xs:List aj)(us:List Value)(pk:Int)(tr:List Int)(p q:aD)(hp:ak xs p)(hq:ak xs q):aA Tryz.prog 146 [.ptr 10000 0,vP p,vP q] (tB xs us pk tr) (.tup []) (tB (bL xs p q) us pk tr):=by
 refine aA.expose BM ?_;intro us' hpre hlen;intro us2 hpre2 hlen2;have hq':ak (aL xs p q) q:=hq.set;obtain⟨p1,p2,p3,p4⟩:=hp;obtain⟨q1,q2,q3,q4⟩:=hq';have q2':q.1<(xs.length:Nat):=by rwa[cK]at q2
 refine aA.intro (nt:=32) aJ mixed BM Tryz.func146 rfl rfl rfl rfl rfl rfl ?_;refine aI ⟨p1,p2⟩ ?_;refine aI (sJ hlen p1 p2) ?_;refine aI ⟨p3,p4⟩ ?_;refine eI 10001 (aI ⟨⟨p1,p2,rJ hlen p1 p2 (by decide)⟩,p3,p4⟩ ?_);refine aI (by kernel_rfl) ?_;refine aI ⟨q1,q2⟩ ?_;refine aI (sJ hlen q1 q2') ?_;refine aI ⟨q3,q4⟩ ?_;refine eI 10001 (aI ⟨⟨q1,q2,rJ hlen q1 q2' (by decide)⟩,q3,q4⟩ ?_);refine aI (by kernel_rfl) ?_;refine fin [] (aI rfl ?_);exact⟨trivial,⟨rfl,rfl,⟨rfl,rfl⟩,trivial⟩,⟨rfl,hpre⟩,⟨rfl,nP⟩,trivial⟩
theorem Ri(xs:List aj)(us:List Value)(pk:Int)(tr:List Int)(p:aD)(hp:ak xs p):aA Tryz.prog 87 [.ptr 10000 0,vP p] (tB xs us pk tr) (vP (au xs p)) (tB xs us pk tr):=
 aA.o9 aJ [51,0] Hf (Bh xs p hp) rfl
theorem moveB(xs:List aj)(us:List Value)(pk:Int)(tr:List Int)(p q:aD)(hA:bf xs)(hp:ak xs p)(hq:ak xs q):aA Tryz.prog 109 [.ptr 10000 0,vP p,vP q] (tB xs us pk tr) (.tup []) (tB (dA xs p q) us pk tr):=by
 have hl:=Fu xs us pk tr q (au xs p) hq (hA p hp);rw[uP hq (hA p hp)]at hl;refine aA.intro (nt:=12) aJ mixed M7 Tryz.func109 rfl rfl rfl rfl rfl rfl ?_;refine Or.inr (eI _ (eI _ (aI (Ri xs us pk tr p hp) ?_)));refine Or.inr (eI _ (eI _ (aI hl ?_)));refine aI (by kernel_rfl) ?_;refine fin [] (aI rfl ?_);exact⟨trivial,⟨rfl,rfl,⟨rfl,rfl⟩,trivial⟩,⟨rfl,pR _⟩,⟨rfl,nP⟩,trivial⟩
theorem MK(xs:List aj)(us:List Value)(pk:Int)(tr:List Int)(p q:aD)(hp:ak xs p)(hq:ak xs q)(hr:ak xs (au xs p))(hs:ak xs (au xs q)):aA Tryz.prog 106 [.ptr 10000 0,vP p,vP q] (tB xs us pk tr) (.tup []) (tB (aV xs p q) us pk tr):=by
 refine aA.intro (nt:=21) aJ mixed M6 Tryz.func106 rfl rfl rfl rfl rfl rfl ?_;refine Or.inr (eI _ (eI _ (aI (Ri xs us pk tr p hp) ?_)));refine Or.inr (eI _ (eI _ (aI (Ri xs us pk tr q hq) ?_)));refine aI ⟨by kernel_rfl,rfl⟩ ?_;refine aI (fun h1=> ?_) (fun h1=> ?_)
 ·refine Or.inr (eI _ (eI _ (aI (Fu xs us pk tr (au xs p) (au xs q) hr hs) ?_)));refine fin [] (aI rfl ?_);refine⟨trivial,⟨rfl,rfl,⟨rfl,rfl⟩,trivial⟩,⟨?_,pR _⟩,⟨rfl,nP⟩,trivial⟩;have h1:(!gL [(au xs p).1,(au xs p).2] [q.1,q.2])=true:=h1
  have h2:((au xs p).1==q.1&&(au xs p).2==q.2)=false:=by
   cases hc:((au xs p).1==q.1&&(au xs p).2==q.2)with
   |false=>rfl
   |true=>simp[gL,hc]at h1
  show bL xs (au xs p) (au xs q)=_;unfold aV;rw[h2];rfl
 ·refine fin [] (aI rfl ?_);refine⟨trivial,⟨rfl,rfl,⟨rfl,rfl⟩,trivial⟩,⟨?_,pR _⟩,⟨rfl,nP⟩,trivial⟩;have h1:(!gL [(au xs p).1,(au xs p).2] [q.1,q.2])=false:=h1;have h2:((au xs p).1==q.1&&(au xs p).2==q.2)=true:=by simpa[gL]using h1
  show xs=_;unfold aV;rw[h2];rfl
theorem kJ(xs:List aj)(us:List Value)(pk:Int)(tr:List Int)(a:Int)(ha:0≤a∧a<(xs.length:Nat)):aA Tryz.prog 113 [.ptr 10000 0,.int .i64 a] (tB xs us pk tr) (.tup []) (tB (bC xs a) [] pk tr):=by
 refine aA.intro (nt:=11) aJ mixed FD Tryz.func113 rfl rfl rfl rfl rfl rfl ?_;refine aI ha ?_;refine fin [] (aI rfl ?_);exact⟨trivial,⟨rfl,rfl,⟨rfl,rfl⟩,trivial⟩,⟨rfl,nP⟩,⟨rfl,nP⟩,trivial⟩
theorem uG(xs:List aj)(us:List Value)(pk:Int)(tr:List Int)(k l v:Int)(n:Nat)(hl:xs.length≤1000000)(hn:n≤1000000):aA Tryz.prog 108 [.ptr 10000 0,.int .i64 k,.int .i64 l,.int .i64 v,.raw (.slice none 0 0),.int .i64 (n:Nat)] (tB xs us pk tr) (.int .i64 (xs.length:Nat)) (U5 10003 (xs++[bg k l v [] n]) us pk tr):=by
 refine aA.intro (nt:=48) aJ mixed He Tryz.func108 rfl rfl rfl rfl rfl rfl ?_;refine Or.inr (eI _ (eI _ (aI Ng ?_)))
 refine lp Nat (fun j=>[(14,.int .i64 ((n:Nat)-(j:Nat)))])
  (fun j=>match j with|0=>[.dD 13 111 [.int .i64 k,.int .i64 l,.int .i64 v,.sl 19,.raw (.slice none 0 0)],.dD 10000 56 [.sl 10001,.sl 10002,.int .i64 pk],.row 10001 111 5 aG xs us,.row 10002 2 1 (.int .i64) tr [],.row 19 2 1 (.int .i64) [] []]|j+1=>[.dD 13 111 [.int .i64 k,.int .i64 l,.int .i64 v,.sl 19,.sl 20001],.dD 10000 56 [.sl 10001,.sl 10002,.int .i64 pk],.row 10001 111 5 aG xs us,.row 10002 2 1 (.int .i64) tr [],.row 19 2 1 (.int .i64) [] [],.row 20001 86 2 aR (List.replicate (j+1) (0,0)) []])
  (fun j=>n-j) (fun j=>j≤n) 0 (Nat.zero_le _) ?_ ?_
 ·exact hd [] rfl (aI (aI (Int.sub_zero _).symm rfl) trivial) ⟨trivial,⟨⟨rfl,rfl⟩,⟨rfl,rfl⟩,⟨rfl,rfl⟩,rfl,rfl,trivial⟩,trivial,⟨rfl,rfl,⟨rfl,rfl⟩,trivial⟩,⟨rfl,pR _⟩,⟨rfl,nP⟩,⟨rfl,nP⟩,trivial⟩
 intro j hj;have hwr:IntKind.i64.wrap ((n:Nat)-(j:Nat)-1)=(n:Nat)-((j+1:Nat):Int):=by rw[qO _ (by omega)];omega
 cases j with
 |zero=>
  refine aI (fun q1=> ?_) (fun q1=> ?_)
  ·have hlt:0<n:=by have q2:decide ((0:Int)<(n:Nat)-((0:Nat):Int))=true:=q1;simp at q2;omega
   refine aI (by show 1≤1073741824;omega) ?_;refine bB 1 (by omega) ?_ ?_
   ·exact hd [(20001,30)] rfl (aI (aI hwr rfl) trivial) ⟨trivial,⟨⟨rfl,rfl⟩,⟨rfl,rfl⟩,⟨rfl,rfl⟩,rfl,rfl,trivial⟩,trivial,⟨rfl,rfl,⟨rfl,rfl⟩,trivial⟩,⟨rfl,pR _⟩,⟨rfl,nP⟩,⟨rfl,nP⟩,⟨rfl,nP⟩,trivial⟩
   ·show n-1<n-0;omega
  ·have hn0:n=0:=by have q2:decide ((0:Int)<(n:Nat)-((0:Nat):Int))=false:=q1;simp at q2;omega
   refine aI (by show xs.length+1≤_;omega) ?_;refine aI (by kernel_rfl) ?_;refine fin [(10003,39)] (aI ?_ ?_)
   ·show IntKind.i64.wrap (((xs++[_]).length:Nat)-1)=((xs.length:Nat):Int)∧IntKind.i64=IntKind.i64;rw[qA,qJ,qO _ (by omega)];exact⟨by omega,rfl⟩
   ·refine⟨trivial,⟨rfl,rfl,⟨rfl,rfl⟩,trivial⟩,⟨?_,pR _⟩,⟨rfl,nP⟩,trivial⟩;show xs++[(k,l,v,[],[])]=xs++[bg k l v [] n];unfold bg;rw[hn0];rfl
 |succ j=>
  refine aI (fun q1=> ?_) (fun q1=> ?_)
  ·have hlt:j+1<n:=by have q2:decide ((0:Int)<(n:Nat)-((j+1:Nat):Int))=true:=q1;simp at q2;omega
   refine aI (by show(List.replicate (j+1) ((0:Int),(0:Int))).length+1≤1073741824;rw[List.length_replicate];omega) ?_;refine bB (j+2) (by omega) ?_ ?_
   ·refine hd [(20001,30)] rfl (aI (aI hwr rfl) trivial) ⟨trivial,⟨⟨rfl,rfl⟩,⟨rfl,rfl⟩,⟨rfl,rfl⟩,rfl,rfl,trivial⟩,trivial,⟨rfl,rfl,⟨rfl,rfl⟩,trivial⟩,⟨rfl,pR _⟩,⟨rfl,nP⟩,⟨rfl,nP⟩,⟨?_,nP⟩,trivial⟩;show List.replicate (j+1) ((0:Int),(0:Int))++[(0,0)]=List.replicate (j+1+1) (0,0);rw[List.replicate_succ' (n:=j+1)]
   ·show n-(j+2)<n-(j+1);omega
  ·have hn0:n=j+1:=by have q2:decide ((0:Int)<(n:Nat)-((j+1:Nat):Int))=false:=q1;simp at q2;omega
   refine aI (by show xs.length+1≤_;omega) ?_;refine aI (by kernel_rfl) ?_;refine fin [(10003,39)] (aI ?_ ?_)
   ·show IntKind.i64.wrap (((xs++[_]).length:Nat)-1)=((xs.length:Nat):Int)∧IntKind.i64=IntKind.i64;rw[qA,qJ,qO _ (by omega)];exact⟨by omega,rfl⟩
   ·refine⟨trivial,⟨rfl,rfl,⟨rfl,rfl⟩,trivial⟩,⟨?_,pR _⟩,⟨rfl,nP⟩,trivial⟩;show xs++[(k,l,v,[],List.replicate (j+1) (0,0))]=xs++[bg k l v [] n];unfold bg;rw[hn0]
theorem Gc(xs:List aj)(us:List Value)(pk:Int)(tr:List Int)(k l v:Int)(n:Nat)(ds:List Int)(hl:xs.length≤1000000)(hn:n≤1000000)(hd0:ds.length≤1000000):aA Tryz.prog 108 [.ptr 10000 0,.int .i64 k,.int .i64 l,.int .i64 v,.sl 10003,.int .i64 (n:Nat)] (tB xs us pk tr++[.row 10003 2 1 (.int .i64) ds []]) (.int .i64 (xs.length:Nat)) (U5 10004 (xs++[bg k l v ds n]) us pk tr++[.row 10003 2 1 (.int .i64) ds []]):=by
 refine aA.intro (nt:=48) aJ mixed He Tryz.func108 rfl rfl rfl rfl rfl rfl ?_;refine Or.inr (eI _ (eI _ (aI (Nh ds (by omega)) ?_)))
 refine lp Nat (fun j=>[(14,.int .i64 ((n:Nat)-(j:Nat)))])
  (fun j=>match j with|0=>[.dD 13 111 [.int .i64 k,.int .i64 l,.int .i64 v,.sl 19,.raw (.slice none 0 0)],.dD 10000 56 [.sl 10001,.sl 10002,.int .i64 pk],.row 10001 111 5 aG xs us,.row 10002 2 1 (.int .i64) tr [],.row 10003 2 1 (.int .i64) ds [],.row 19 2 1 (.int .i64) ds []]|j+1=>[.dD 13 111 [.int .i64 k,.int .i64 l,.int .i64 v,.sl 19,.sl 20001],.dD 10000 56 [.sl 10001,.sl 10002,.int .i64 pk],.row 10001 111 5 aG xs us,.row 10002 2 1 (.int .i64) tr [],.row 10003 2 1 (.int .i64) ds [],.row 19 2 1 (.int .i64) ds [],.row 20001 86 2 aR (List.replicate (j+1) (0,0)) []])
  (fun j=>n-j) (fun j=>j≤n) 0 (Nat.zero_le _) ?_ ?_
 ·exact hd [] rfl (aI (aI (Int.sub_zero _).symm rfl) trivial) ⟨trivial,⟨⟨rfl,rfl⟩,⟨rfl,rfl⟩,⟨rfl,rfl⟩,rfl,rfl,trivial⟩,trivial,⟨rfl,rfl,⟨rfl,rfl⟩,trivial⟩,⟨rfl,pR _⟩,⟨rfl,nP⟩,⟨rfl,nP⟩,⟨rfl,nP⟩,trivial⟩
 intro j hj;have hwr:IntKind.i64.wrap ((n:Nat)-(j:Nat)-1)=(n:Nat)-((j+1:Nat):Int):=by rw[qO _ (by omega)];omega
 cases j with
 |zero=>
  refine aI (fun q1=> ?_) (fun q1=> ?_)
  ·have hlt:0<n:=by have q2:decide ((0:Int)<(n:Nat)-((0:Nat):Int))=true:=q1;simp at q2;omega
   refine aI (by show 1≤1073741824;omega) ?_;refine bB 1 (by omega) ?_ ?_
   ·exact hd [(20001,30)] rfl (aI (aI hwr rfl) trivial) ⟨trivial,⟨⟨rfl,rfl⟩,⟨rfl,rfl⟩,⟨rfl,rfl⟩,rfl,rfl,trivial⟩,trivial,⟨rfl,rfl,⟨rfl,rfl⟩,trivial⟩,⟨rfl,pR _⟩,⟨rfl,nP⟩,⟨rfl,nP⟩,⟨rfl,nP⟩,⟨rfl,nP⟩,trivial⟩
   ·show n-1<n-0;omega
  ·have hn0:n=0:=by have q2:decide ((0:Int)<(n:Nat)-((0:Nat):Int))=false:=q1;simp at q2;omega
   refine aI (by show xs.length+1≤_;omega) ?_;refine aI (by kernel_rfl) ?_;refine fin [(10004,39)] (aI ?_ ?_)
   ·show IntKind.i64.wrap (((xs++[_]).length:Nat)-1)=((xs.length:Nat):Int)∧IntKind.i64=IntKind.i64;rw[qA,qJ,qO _ (by omega)];exact⟨by omega,rfl⟩
   ·refine⟨trivial,⟨rfl,rfl,⟨rfl,rfl⟩,trivial⟩,⟨?_,pR _⟩,⟨rfl,nP⟩,⟨rfl,nP⟩,trivial⟩;show xs++[(k,l,v,ds,[])]=xs++[bg k l v ds n];unfold bg;rw[hn0];rfl
 |succ j=>
  refine aI (fun q1=> ?_) (fun q1=> ?_)
  ·have hlt:j+1<n:=by have q2:decide ((0:Int)<(n:Nat)-((j+1:Nat):Int))=true:=q1;simp at q2;omega
   refine aI (by show(List.replicate (j+1) ((0:Int),(0:Int))).length+1≤1073741824;rw[List.length_replicate];omega) ?_;refine bB (j+2) (by omega) ?_ ?_
   ·refine hd [(20001,30)] rfl (aI (aI hwr rfl) trivial) ⟨trivial,⟨⟨rfl,rfl⟩,⟨rfl,rfl⟩,⟨rfl,rfl⟩,rfl,rfl,trivial⟩,trivial,⟨rfl,rfl,⟨rfl,rfl⟩,trivial⟩,⟨rfl,pR _⟩,⟨rfl,nP⟩,⟨rfl,nP⟩,⟨rfl,nP⟩,⟨?_,nP⟩,trivial⟩;show List.replicate (j+1) ((0:Int),(0:Int))++[(0,0)]=List.replicate (j+1+1) (0,0);rw[List.replicate_succ' (n:=j+1)]
   ·show n-(j+2)<n-(j+1);omega
  ·have hn0:n=j+1:=by have q2:decide ((0:Int)<(n:Nat)-((j+1:Nat):Int))=false:=q1;simp at q2;omega
   refine aI (by show xs.length+1≤_;omega) ?_;refine aI (by kernel_rfl) ?_;refine fin [(10004,39)] (aI ?_ ?_)
   ·show IntKind.i64.wrap (((xs++[_]).length:Nat)-1)=((xs.length:Nat):Int)∧IntKind.i64=IntKind.i64;rw[qA,qJ,qO _ (by omega)];exact⟨by omega,rfl⟩
   ·refine⟨trivial,⟨rfl,rfl,⟨rfl,rfl⟩,trivial⟩,⟨?_,pR _⟩,⟨rfl,nP⟩,⟨rfl,nP⟩,trivial⟩;show xs++[(k,l,v,ds,List.replicate (j+1) (0,0))]=xs++[bg k l v ds n];unfold bg;rw[hn0]
theorem M9:bK Tryz.prog 110=true:=by kernel_rfl
theorem FB:bK Tryz.prog 111=true:=by kernel_rfl
theorem QO:bK Tryz.prog 107=true:=by kernel_rfl
theorem Jy:bK Tryz.prog 142=true:=by kernel_rfl
theorem Mw(x:aj):aN Tryz.prog 142 [.rp aG x] (.int .i64 (mG x)):=by
 refine aN.intro (nt:=14) aJ mixed Jy Tryz.func142 rfl rfl rfl rfl rfl ?_;refine aI (fun q1=> ?_) (fun q1=> ?_)
 ·refine⟨?_,rfl⟩;unfold mG;rw[show(x.1==9)=true from q1];rfl
 ·refine⟨?_,rfl⟩;unfold mG;rw[show(x.1==9)=false from q1];rfl
theorem Mv(xs:List aj)(us:List Value)(i:Int):aA Tryz.prog 142 [.ep 10000 5 i 0] [.row 10000 111 5 aG xs us] (.int .i64 (mG (ah xs i))) [.row 10000 111 5 aG xs us]:=
 aA.o9 aJ [0] Jy (Mw (ah xs i)) rfl
theorem XG(xs:List aj)(us:List Value)(x y:Int)(hA:bf xs)(h0:ak xs (0,0))(hl:xs.length≤900000)(hx:0≤x∧x<(xs.length:Nat))(h1:ak xs (y,1))(hk:(ah xs y).1=7∨(ah xs y).1=8)(h2:(ah xs y).1=7→ak xs (y,2))(h3:(ah xs y).1≠7→0<(ah xs y).2.2.2.1.length)(hdd:(ah xs y).2.2.2.1.length≤1000000)(hp:(ah xs y).2.2.2.2.length≤1000):
  aA Tryz.prog 110 [.ptr 10000 0,.int .i64 x,.int .i64 y] (tA xs us) (.tup []) (J3 10002 (bG xs x y) us):=by
 have hy:0≤y∧y<(xs.length:Nat):=⟨h1.1,h1.2.1⟩;refine aA.intro (nt:=64) aJ mixed M9 Tryz.func110 rfl rfl rfl rfl rfl rfl ?_;refine aI hy ?_;refine Or.inr (eI _ (eI _ (aI (Aq xs us y (by omega) (by omega)) ?_)));refine aI hx ?_;refine aI (fun q1=> ?_) (fun q1=> ?_)
 ·have q8:(ah xs y).1=8:=by have q2:((ah xs y).1==8)=true:=q1;simpa using q2
  have q7:(ah xs y).1≠7:=by omega
  refine aI ⟨by decide,by have:=h3 q7;show(0:Int)<((ah xs y).2.2.2.1.length:Nat);omega⟩ ?_;refine Or.inl (eI _ (aI (JC _ _ _) ?_));refine Or.inr (eI _ (eI _ (aI (uF xs us 6 0 (wK (ah xs y).2.2.1 (jd (ah xs y).2.2.2.1 0) (ah xs x).2.2.1) 1 (by omega) (by omega)) ?_)));refine aI (by kernel_rfl) ?_;have hA1:=hA.add h0 6 0 (wK (ah xs y).2.2.1 (jd (ah xs y).2.2.2.1 0) (ah xs x).2.2.1) [] 1;refine Or.inl (eI _ (aI (bM y 1) ?_));refine Or.inl (eI _ (aI (bM _ 0) ?_));refine Or.inr (eI _ (eI _ (aI (moveA _ us (y,1) ((xs.length:Nat),0) hA1 h1.app (ak.new (by decide) (by decide))) ?_)))
  refine fin [(10002,37)] (aI rfl ?_);refine⟨trivial,⟨rfl,trivial⟩,⟨?_,pR _⟩,trivial⟩;show _=bG xs x y;unfold bG;rw[show((ah xs y).1==7)=false by simpa using q7];rfl
 ·have q8:(ah xs y).1≠8:=by have q2:((ah xs y).1==8)=false:=q1;simpa using q2
  have q7:(ah xs y).1=7:=by omega
  refine Or.inr (eI _ (eI _ (aI (Gb xs us 8 (ah xs y).2.1 (ah xs y).2.2.1 2 [(ah xs x).2.2.1] (by omega) (by omega) (by simp)) ?_)));have hA1:=hA.add h0 8 (ah xs y).2.1 (ah xs y).2.2.1 [(ah xs x).2.2.1] 2;refine Or.inl (eI _ (aI (bM y 1) ?_));refine Or.inl (eI _ (aI (bM _ 0) ?_));refine Or.inr (eI _ (eI _ (aI (moveA (xs++[bg 8 (ah xs y).2.1 (ah xs y).2.2.1 [(ah xs x).2.2.1] 2]) us (y,1) ((xs.length:Nat),0) hA1 h1.app (ak.new (by decide) (by decide))) ?_)));refine Or.inl (eI _ (aI (bM y 2) ?_));refine Or.inl (eI _ (aI (bM _ 1) ?_));refine Or.inr (eI _ (eI _ (aI (moveA _ us (y,2) ((xs.length:Nat),1) (hA1.move h1.app (ak.new (by decide) (by decide))) ((h2 q7).app.move) ((ak.new (by decide) (by decide)).move)) ?_)))
  refine fin [(10002,51)] (aI rfl ?_);refine⟨trivial,⟨rfl,trivial⟩,⟨?_,pR _⟩,trivial⟩;show _=bG xs x y;unfold bG;rw[show((ah xs y).1==7)=true by simpa using q7];rfl
theorem jT(xs:List aj)(us:List Value)(pk:Int)(tr:List Int)(x y:Int)(hA:bf xs)(h0:ak xs (0,0))(hl:xs.length≤900000)(hx:0≤x∧x<(xs.length:Nat))(h1:ak xs (y,1))(hk:(ah xs y).1=7∨(ah xs y).1=8)(h2:(ah xs y).1=7→ak xs (y,2))(h3:(ah xs y).1≠7→0<(ah xs y).2.2.2.1.length)(hdd:(ah xs y).2.2.2.1.length≤1000000)(hp:(ah xs y).2.2.2.2.length≤1000):
  aA Tryz.prog 110 [.ptr 10000 0,.int .i64 x,.int .i64 y] (tB xs us pk tr) (.tup []) (U5 10003 (bG xs x y) us pk tr):=by
 have hy:0≤y∧y<(xs.length:Nat):=⟨h1.1,h1.2.1⟩;refine aA.intro (nt:=64) aJ mixed M9 Tryz.func110 rfl rfl rfl rfl rfl rfl ?_;refine aI hy ?_;refine Or.inr (eI _ (eI _ (aI (Aq xs us y (by omega) (by omega)) ?_)));refine aI hx ?_;refine aI (fun q1=> ?_) (fun q1=> ?_)
 ·have q8:(ah xs y).1=8:=by have q2:((ah xs y).1==8)=true:=q1;simpa using q2
  have q7:(ah xs y).1≠7:=by omega
  refine aI ⟨by decide,by have:=h3 q7;show(0:Int)<((ah xs y).2.2.2.1.length:Nat);omega⟩ ?_;refine Or.inl (eI _ (aI (JC _ _ _) ?_));refine Or.inr (eI _ (eI _ (aI (uG xs us pk tr 6 0 (wK (ah xs y).2.2.1 (jd (ah xs y).2.2.2.1 0) (ah xs x).2.2.1) 1 (by omega) (by omega)) ?_)));refine aI (by kernel_rfl) ?_;have hA1:=hA.add h0 6 0 (wK (ah xs y).2.2.1 (jd (ah xs y).2.2.2.1 0) (ah xs x).2.2.1) [] 1;refine Or.inl (eI _ (aI (bM y 1) ?_));refine Or.inl (eI _ (aI (bM _ 0) ?_));refine Or.inr (eI _ (eI _ (aI (moveB _ us pk tr (y,1) ((xs.length:Nat),0) hA1 h1.app (ak.new (by decide) (by decide))) ?_)))
  refine fin [(10003,37)] (aI rfl ?_);refine⟨trivial,⟨rfl,rfl,⟨rfl,rfl⟩,trivial⟩,⟨?_,pR _⟩,⟨rfl,nP⟩,trivial⟩;show _=bG xs x y;unfold bG;rw[show((ah xs y).1==7)=false by simpa using q7];rfl
 ·have q8:(ah xs y).1≠8:=by have q2:((ah xs y).1==8)=false:=q1;simpa using q2
  have q7:(ah xs y).1=7:=by omega
  refine Or.inr (eI _ (eI _ (aI (Gc xs us pk tr 8 (ah xs y).2.1 (ah xs y).2.2.1 2 [(ah xs x).2.2.1] (by omega) (by omega) (by simp)) ?_)));have hA1:=hA.add h0 8 (ah xs y).2.1 (ah xs y).2.2.1 [(ah xs x).2.2.1] 2;refine Or.inl (eI _ (aI (bM y 1) ?_));refine Or.inl (eI _ (aI (bM _ 0) ?_));refine Or.inr (eI _ (eI _ (aI (moveB (xs++[bg 8 (ah xs y).2.1 (ah xs y).2.2.1 [(ah xs x).2.2.1] 2]) us pk tr (y,1) ((xs.length:Nat),0) hA1 h1.app (ak.new (by decide) (by decide))) ?_)));refine Or.inl (eI _ (aI (bM y 2) ?_));refine Or.inl (eI _ (aI (bM _ 1) ?_))
  refine Or.inr (eI _ (eI _ (aI (moveB _ us pk tr (y,2) ((xs.length:Nat),1) (hA1.move h1.app (ak.new (by decide) (by decide))) ((h2 q7).app.move) ((ak.new (by decide) (by decide)).move)) ?_)));refine fin [(10003,51)] (aI rfl ?_);refine⟨trivial,⟨rfl,rfl,⟨rfl,rfl⟩,trivial⟩,⟨?_,pR _⟩,⟨rfl,nP⟩,trivial⟩;show _=bG xs x y;unfold bG;rw[show((ah xs y).1==7)=true by simpa using q7];rfl
theorem SI(xs:List aj)(us:List Value)(x y:Int)(hA:bf xs)(h0:ak xs (0,0))(hl:xs.length≤900000)(hx:0≤x∧x<(xs.length:Nat))(hy1:ak xs (y,1))(h6:(ah xs y).1=11→(ah xs y).2.2.2.1.length=2)(hc:(ah xs y).1≠11→0≤(ah xs x).2.2.1∧(ah xs x).2.2.1<((ah xs y).2.2.2.1.length:Nat)∧(ah xs x).1=9)(hp:(ah xs x).2.2.2.2.length≤1000)(hp0:0<(ah xs x).2.2.2.2.length)(hdd:(ah xs y).2.2.2.1.length≤1000000)(hpy:(ah xs y).2.2.2.2.length≤1000):
  aA Tryz.prog 111 [.ptr 10000 0,.int .i64 x,.int .i64 y] (tA xs us) (.tup []) (J3 10002 (dx xs x y) us):=by
 have hy:0≤y∧y<(xs.length:Nat):=⟨hy1.1,hy1.2.1⟩;refine aA.intro (nt:=105) aJ mixed FB Tryz.func111 rfl rfl rfl rfl rfl rfl ?_;refine aI hy ?_;refine Or.inr (eI _ (eI _ (aI (Aq xs us y (by omega) (by omega)) ?_)));refine aI (fun q1=> ?_) (fun q1=> ?_)
 ·have q2:(ah xs y).1=11:=by have q2:((ah xs y).1==11)=true:=q1;simpa using q2
  have hl2:=h6 q2;refine aI ⟨by decide,by show(1:Int)<((ah xs y).2.2.2.1.length:Nat);omega⟩ ?_;refine aI hx ?_;refine aI (fun q3=> ?_) (fun q3=> ?_)
  ·have q4:((ah xs x).2.2.1==0)=false:=by have q4:((ah xs x).2.2.1 !=0)=true:=q3;simpa[bne]using q4
   refine aI ⟨by decide,by show(0:Int)<((ah xs y).2.2.2.1.length:Nat);omega⟩ ?_;refine Or.inr (eI _ (eI _ (aI (uF xs us 12 (ah xs y).2.1 (jd (ah xs y).2.2.2.1 0) 1 (by omega) (by omega)) ?_)));have hA1:=hA.add h0 12 (ah xs y).2.1 (jd (ah xs y).2.2.2.1 0) [] 1;refine Or.inl (eI _ (aI (bM y 1) ?_));refine Or.inl (eI _ (aI (bM _ 0) ?_));refine Or.inr (eI _ (eI _ (aI (moveA _ us (y,1) ((xs.length:Nat),0) hA1 hy1.app (ak.new (by decide) (by decide))) ?_)));refine fin [(10002,45)] (aI rfl ?_);refine⟨trivial,⟨rfl,trivial⟩,⟨?_,pR _⟩,trivial⟩;show _=dx xs x y
   unfold dx;rw[show((ah xs y).1==11)=true from q1,q4];rfl
  ·have q4:((ah xs x).2.2.1==0)=true:=by have q4:((ah xs x).2.2.1 !=0)=false:=q3;simpa[bne]using q4
   refine Or.inr (eI _ (eI _ (aI (uF xs us 12 (ah xs y).2.1 (jd (ah xs y).2.2.2.1 1) 1 (by omega) (by omega)) ?_)));have hA1:=hA.add h0 12 (ah xs y).2.1 (jd (ah xs y).2.2.2.1 1) [] 1;refine Or.inl (eI _ (aI (bM y 1) ?_));refine Or.inl (eI _ (aI (bM _ 0) ?_));refine Or.inr (eI _ (eI _ (aI (moveA _ us (y,1) ((xs.length:Nat),0) hA1 hy1.app (ak.new (by decide) (by decide))) ?_)));refine fin [(10002,45)] (aI rfl ?_);refine⟨trivial,⟨rfl,trivial⟩,⟨?_,pR _⟩,trivial⟩;show _=dx xs x y;unfold dx;rw[show((ah xs y).1==11)=true from q1,q4];rfl
 ·have q2:(ah xs y).1≠11:=by have q2:((ah xs y).1==11)=false:=q1;simpa using q2
  obtain⟨v0,v1,k9⟩:=hc q2
  have hf:mG (ah xs x)=((((ah xs x).2.2.2.2.length-1):Nat):Int):=by
   unfold mG;rw[show((ah xs x).1==9)=true by simpa using k9,qG,qO _ (by omega)];omega
  have hfe:=Mv xs us x;rw[hf]at hfe;refine aI hx ?_;refine Or.inr (eI _ (eI _ (aI hfe ?_)));refine aI hx ?_;refine aI ⟨v0,v1⟩ ?_;refine Or.inr (eI _ (eI _ (aI (uF xs us 12 (ah xs y).2.1 (jd (ah xs y).2.2.2.1 (ah xs x).2.2.1) 1 (by omega) (by omega)) ?_)));refine aI (by kernel_rfl) ?_;refine Or.inl (eI _ (aI (bM _ 0) ?_));have h1A:bf (bD xs y (ah xs x).2.2.1):=hA.add h0 _ _ _ _ _;have h1l:(bD xs y (ah xs x).2.2.1).length=xs.length+1:=pO _ _ _;have h1R:ak (bD xs y (ah xs x).2.2.1) (iO (bD xs y (ah xs x).2.2.1).length 0):=by rw[h1l];exact ak.new (by decide) (by decide)
  have h1:∀{p},ak xs p→ak (bD xs y (ah xs x).2.2.1) p:=fun h=>h.app
  have hxi:∀i:Nat,i<((ah xs x).2.2.2.2.length-1)→ak (bD xs y (ah xs x).2.2.1) (x,((i+1:Nat):Int)):=fun i hi=>h1 ⟨hx.1,hx.2,by omega,by show((i+1:Nat):Int)<((ah xs x).2.2.2.2.length:Nat);omega⟩
  refine lp Nat (fun k=>[(12,.int .i64 ((k+1:Nat):Int))])
   (fun k=>[.dD 6 111 [.int .i64 (ah xs y).1,.int .i64 (ah xs y).2.1,.int .i64 (ah xs y).2.2.1,.sl 20,.sl 1000020],.dD 11 86 [.int .i64 (iO (xs.length+1) k).1,.int .i64 (iO (xs.length+1) k).2],.dD 10000 30 [.sl 20000],.row 20000 111 5 aG (oC (ah xs y).2.1 x (xs.length+1) (bD xs y (ah xs x).2.2.1) k) us]) (fun k=>((ah xs x).2.2.2.2.length-1)-k) (fun k=>k≤((ah xs x).2.2.2.2.length-1)) 0 (Nat.zero_le _) ?_ ?_
  ·exact hd [(20000,74)] rfl (aI (aI rfl rfl) trivial) ⟨trivial,⟨⟨rfl,rfl⟩,⟨rfl,rfl⟩,⟨rfl,rfl⟩,rfl,rfl,trivial⟩,trivial,⟨⟨rfl,rfl⟩,⟨rfl,rfl⟩,trivial⟩,trivial,⟨rfl,trivial⟩,⟨rfl,pR _⟩,trivial⟩
  intro k hk;have hcl:(oC (ah xs y).2.1 x (xs.length+1) (bD xs y (ah xs x).2.2.1) k).length=xs.length+1+k:=by rw[oQ,h1l]
  refine aI (fun q3=> ?_) (fun q3=> ?_)
  ·have hlt:k<((ah xs x).2.2.2.2.length-1):=by
    have q4:decide (((k+1:Nat):Int)≤((((ah xs x).2.2.2.2.length-1):Nat):Int))=true:=q3;simp only[qQ]at q4;omega
   have hadd:=uF (oC (ah xs y).2.1 x (xs.length+1) (bD xs y (ah xs x).2.2.1) k) us 3 (ah xs y).2.1 0 3 (by rw[hcl];omega) (by omega);rw[hcl]at hadd;refine Or.inr (eI _ (eI _ (aI hadd ?_)))
   have hnew:∀s:Int,0≤s→s<3→ak ((oC (ah xs y).2.1 x (xs.length+1) (bD xs y (ah xs x).2.2.1) k)++[bg 3 (ah xs y).2.1 0 [] 3]) (((xs.length+1+k:Nat):Int),s):=fun s h0 h1=>by
    have:=uJ (lv:=(ah xs y).2.1) (x:=x) (xs:=(bD xs y (ah xs x).2.2.1)) k h0 h1;rw[h1l]at this;exact this
   have hR:=vV (lv:=(ah xs y).2.1) (x:=x) h1R k;rw[h1l]at hR;have hAk:=uK (lv:=(ah xs y).2.1) (x:=x) h1A (h1 h0) h1R k fun i hi=>hxi i (by omega)
   rw[h1l]at hAk;refine Or.inl (eI _ (aI (bM _ 0) ?_));refine Or.inr (eI _ (eI _ (aI (Fq ((oC (ah xs y).2.1 x (xs.length+1) (bD xs y (ah xs x).2.2.1) k)++[bg 3 (ah xs y).2.1 0 [] 3]) us (iO (xs.length+1) k) (((xs.length+1+k:Nat):Int),0) hR.app (hnew 0 (by decide) (by decide))) ?_)));refine aI (by kernel_rfl) ?_;refine Or.inl (eI _ (aI (bM x _) ?_));refine Or.inl (eI _ (aI (bM _ 1) ?_));refine Or.inr (eI _ (eI _ (aI (moveA (bL ((oC (ah xs y).2.1 x (xs.length+1) (bD xs y (ah xs x).2.2.1) k)++[bg 3 (ah xs y).2.1 0 [] 3]) (iO (xs.length+1) k) (((xs.length+1+k:Nat):Int),0)) us (x,((k+1:Nat):Int)) (((xs.length+1+k:Nat):Int),1) ((hAk.add (mh (h1 h0) k) _ _ _ _ _).link hR.app (hnew 0 (by decide) (by decide))) (mh (hxi k hlt) k).app.link (hnew 1 (by decide) (by decide)).link) ?_)))
   refine Or.inl (eI _ (aI (bM _ 2) ?_));refine bB (k+1) (by omega) ?_ ?_
   ·exact hd [(20000,85)] rfl (aI (aI (eB (by omega)) rfl) trivial) ⟨trivial,⟨⟨rfl,rfl⟩,⟨rfl,rfl⟩,⟨rfl,rfl⟩,rfl,rfl,trivial⟩,trivial,⟨⟨rfl,rfl⟩,⟨rfl,rfl⟩,trivial⟩,trivial,⟨rfl,trivial⟩,⟨rfl,pR _⟩,trivial⟩
   ·show((ah xs x).2.2.2.2.length-1)-(k+1)<((ah xs x).2.2.2.2.length-1)-k;omega
  ·have hke:k=((ah xs x).2.2.2.2.length-1):=by
    have q4:decide (((k+1:Nat):Int)≤((((ah xs x).2.2.2.2.length-1):Nat):Int))=false:=q3;simp only[qP]at q4;omega
   have hR:=vV (lv:=(ah xs y).2.1) (x:=x) h1R k;rw[h1l]at hR;have hAk:=uK (lv:=(ah xs y).2.1) (x:=x) h1A (h1 h0) h1R k fun i hi=>hxi i (by omega)
   rw[h1l]at hAk;refine Or.inl (eI _ (aI (bM y 1) ?_));refine Or.inr (eI _ (eI _ (aI (moveA (oC (ah xs y).2.1 x (xs.length+1) (bD xs y (ah xs x).2.2.1) k) us (y,1) (iO (xs.length+1) k) hAk (mh (h1 hy1) k) hR) ?_)));refine aI (by kernel_rfl) ?_;refine fin [(10002,20000)] (aI rfl ?_);refine⟨trivial,⟨rfl,trivial⟩,⟨?_,pR _⟩,trivial⟩;show dA (oC (ah xs y).2.1 x (xs.length+1) (bD xs y (ah xs x).2.2.1) k) (y,1) (iO (xs.length+1) k)=dx xs x y;unfold dx;rw[show((ah xs y).1==11)=false from q1,hke];rfl
theorem SK(xs:List aj)(us:List Value)(pk:Int)(tr:List Int)(x y:Int)(hA:bf xs)(h0:ak xs (0,0))(hl:xs.length≤900000)(hx:0≤x∧x<(xs.length:Nat))(hy1:ak xs (y,1))(h6:(ah xs y).1=11→(ah xs y).2.2.2.1.length=2)(hc:(ah xs y).1≠11→0≤(ah xs x).2.2.1∧(ah xs x).2.2.1<((ah xs y).2.2.2.1.length:Nat)∧(ah xs x).1=9)(hp:(ah xs x).2.2.2.2.length≤1000)(hp0:0<(ah xs x).2.2.2.2.length)(hdd:(ah xs y).2.2.2.1.length≤1000000)(hpy:(ah xs y).2.2.2.2.length≤1000):
  aA Tryz.prog 111 [.ptr 10000 0,.int .i64 x,.int .i64 y] (tB xs us pk tr) (.tup []) (U5 10003 (dx xs x y) us pk tr):=by
 have hy:0≤y∧y<(xs.length:Nat):=⟨hy1.1,hy1.2.1⟩;refine aA.intro (nt:=105) aJ mixed FB Tryz.func111 rfl rfl rfl rfl rfl rfl ?_;refine aI hy ?_;refine Or.inr (eI _ (eI _ (aI (Aq xs us y (by omega) (by omega)) ?_)));refine aI (fun q1=> ?_) (fun q1=> ?_)
 ·have q2:(ah xs y).1=11:=by have q2:((ah xs y).1==11)=true:=q1;simpa using q2
  have hl2:=h6 q2;refine aI ⟨by decide,by show(1:Int)<((ah xs y).2.2.2.1.length:Nat);omega⟩ ?_;refine aI hx ?_;refine aI (fun q3=> ?_) (fun q3=> ?_)
  ·have q4:((ah xs x).2.2.1==0)=false:=by have q4:((ah xs x).2.2.1 !=0)=true:=q3;simpa[bne]using q4
   refine aI ⟨by decide,by show(0:Int)<((ah xs y).2.2.2.1.length:Nat);omega⟩ ?_;refine Or.inr (eI _ (eI _ (aI (uG xs us pk tr 12 (ah xs y).2.1 (jd (ah xs y).2.2.2.1 0) 1 (by omega) (by omega)) ?_)));have hA1:=hA.add h0 12 (ah xs y).2.1 (jd (ah xs y).2.2.2.1 0) [] 1;refine Or.inl (eI _ (aI (bM y 1) ?_));refine Or.inl (eI _ (aI (bM _ 0) ?_));refine Or.inr (eI _ (eI _ (aI (moveB _ us pk tr (y,1) ((xs.length:Nat),0) hA1 hy1.app (ak.new (by decide) (by decide))) ?_)));refine fin [(10003,45)] (aI rfl ?_);refine⟨trivial,⟨rfl,rfl,⟨rfl,rfl⟩,trivial⟩,⟨?_,pR _⟩,⟨rfl,nP⟩,trivial⟩
   show _=dx xs x y;unfold dx;rw[show((ah xs y).1==11)=true from q1,q4];rfl
  ·have q4:((ah xs x).2.2.1==0)=true:=by have q4:((ah xs x).2.2.1 !=0)=false:=q3;simpa[bne]using q4
   refine Or.inr (eI _ (eI _ (aI (uG xs us pk tr 12 (ah xs y).2.1 (jd (ah xs y).2.2.2.1 1) 1 (by omega) (by omega)) ?_)));have hA1:=hA.add h0 12 (ah xs y).2.1 (jd (ah xs y).2.2.2.1 1) [] 1;refine Or.inl (eI _ (aI (bM y 1) ?_));refine Or.inl (eI _ (aI (bM _ 0) ?_));refine Or.inr (eI _ (eI _ (aI (moveB _ us pk tr (y,1) ((xs.length:Nat),0) hA1 hy1.app (ak.new (by decide) (by decide))) ?_)));refine fin [(10003,45)] (aI rfl ?_);refine⟨trivial,⟨rfl,rfl,⟨rfl,rfl⟩,trivial⟩,⟨?_,pR _⟩,⟨rfl,nP⟩,trivial⟩;show _=dx xs x y;unfold dx;rw[show((ah xs y).1==11)=true from q1,q4];rfl
 ·have q2:(ah xs y).1≠11:=by have q2:((ah xs y).1==11)=false:=q1;simpa using q2
  obtain⟨v0,v1,k9⟩:=hc q2
  have hf:mG (ah xs x)=((((ah xs x).2.2.2.2.length-1):Nat):Int):=by
   unfold mG;rw[show((ah xs x).1==9)=true by simpa using k9,qG,qO _ (by omega)];omega
  have hfe:=Mv xs us x;rw[hf]at hfe;refine aI hx ?_;refine Or.inr (eI _ (eI _ (aI hfe ?_)));refine aI hx ?_;refine aI ⟨v0,v1⟩ ?_;refine Or.inr (eI _ (eI _ (aI (uG xs us pk tr 12 (ah xs y).2.1 (jd (ah xs y).2.2.2.1 (ah xs x).2.2.1) 1 (by omega) (by omega)) ?_)));refine aI (by kernel_rfl) ?_;refine Or.inl (eI _ (aI (bM _ 0) ?_));have h1A:bf (bD xs y (ah xs x).2.2.1):=hA.add h0 _ _ _ _ _;have h1l:(bD xs y (ah xs x).2.2.1).length=xs.length+1:=pO _ _ _;have h1R:ak (bD xs y (ah xs x).2.2.1) (iO (bD xs y (ah xs x).2.2.1).length 0):=by rw[h1l];exact ak.new (by decide) (by decide)
  have h1:∀{p},ak xs p→ak (bD xs y (ah xs x).2.2.1) p:=fun h=>h.app
  have hxi:∀i:Nat,i<((ah xs x).2.2.2.2.length-1)→ak (bD xs y (ah xs x).2.2.1) (x,((i+1:Nat):Int)):=fun i hi=>h1 ⟨hx.1,hx.2,by omega,by show((i+1:Nat):Int)<((ah xs x).2.2.2.2.length:Nat);omega⟩
  refine lp Nat (fun k=>[(12,.int .i64 ((k+1:Nat):Int))])
   (fun k=>[.dD 6 111 [.int .i64 (ah xs y).1,.int .i64 (ah xs y).2.1,.int .i64 (ah xs y).2.2.1,.sl 20,.sl 1000020],.dD 11 86 [.int .i64 (iO (xs.length+1) k).1,.int .i64 (iO (xs.length+1) k).2],.dD 10000 56 [.sl 20000,.sl 10002,.int .i64 pk],.row 20000 111 5 aG (oC (ah xs y).2.1 x (xs.length+1) (bD xs y (ah xs x).2.2.1) k) us,.row 10002 2 1 (.int .i64) tr []]) (fun k=>((ah xs x).2.2.2.2.length-1)-k) (fun k=>k≤((ah xs x).2.2.2.2.length-1)) 0 (Nat.zero_le _) ?_ ?_
  ·exact hd [(20000,74)] rfl (aI (aI rfl rfl) trivial) ⟨trivial,⟨⟨rfl,rfl⟩,⟨rfl,rfl⟩,⟨rfl,rfl⟩,rfl,rfl,trivial⟩,trivial,⟨⟨rfl,rfl⟩,⟨rfl,rfl⟩,trivial⟩,trivial,⟨rfl,rfl,⟨rfl,rfl⟩,trivial⟩,⟨rfl,pR _⟩,⟨rfl,nP⟩,trivial⟩
  intro k hk;have hcl:(oC (ah xs y).2.1 x (xs.length+1) (bD xs y (ah xs x).2.2.1) k).length=xs.length+1+k:=by rw[oQ,h1l]
  refine aI (fun q3=> ?_) (fun q3=> ?_)
  ·have hlt:k<((ah xs x).2.2.2.2.length-1):=by
    have q4:decide (((k+1:Nat):Int)≤((((ah xs x).2.2.2.2.length-1):Nat):Int))=true:=q3;simp only[qQ]at q4;omega
   have hadd:=uG (oC (ah xs y).2.1 x (xs.length+1) (bD xs y (ah xs x).2.2.1) k) us pk tr 3 (ah xs y).2.1 0 3 (by rw[hcl];omega) (by omega);rw[hcl]at hadd;refine Or.inr (eI _ (eI _ (aI hadd ?_)))
   have hnew:∀s:Int,0≤s→s<3→ak ((oC (ah xs y).2.1 x (xs.length+1) (bD xs y (ah xs x).2.2.1) k)++[bg 3 (ah xs y).2.1 0 [] 3]) (((xs.length+1+k:Nat):Int),s):=fun s h0 h1=>by
    have:=uJ (lv:=(ah xs y).2.1) (x:=x) (xs:=(bD xs y (ah xs x).2.2.1)) k h0 h1;rw[h1l]at this;exact this
   have hR:=vV (lv:=(ah xs y).2.1) (x:=x) h1R k;rw[h1l]at hR;have hAk:=uK (lv:=(ah xs y).2.1) (x:=x) h1A (h1 h0) h1R k fun i hi=>hxi i (by omega)
   rw[h1l]at hAk;refine Or.inl (eI _ (aI (bM _ 0) ?_));refine Or.inr (eI _ (eI _ (aI (Fu ((oC (ah xs y).2.1 x (xs.length+1) (bD xs y (ah xs x).2.2.1) k)++[bg 3 (ah xs y).2.1 0 [] 3]) us pk tr (iO (xs.length+1) k) (((xs.length+1+k:Nat):Int),0) hR.app (hnew 0 (by decide) (by decide))) ?_)));refine aI (by kernel_rfl) ?_;refine Or.inl (eI _ (aI (bM x _) ?_));refine Or.inl (eI _ (aI (bM _ 1) ?_));refine Or.inr (eI _ (eI _ (aI (moveB (bL ((oC (ah xs y).2.1 x (xs.length+1) (bD xs y (ah xs x).2.2.1) k)++[bg 3 (ah xs y).2.1 0 [] 3]) (iO (xs.length+1) k) (((xs.length+1+k:Nat):Int),0)) us pk tr (x,((k+1:Nat):Int)) (((xs.length+1+k:Nat):Int),1) ((hAk.add (mh (h1 h0) k) _ _ _ _ _).link hR.app (hnew 0 (by decide) (by decide))) (mh (hxi k hlt) k).app.link (hnew 1 (by decide) (by decide)).link) ?_)))
   refine Or.inl (eI _ (aI (bM _ 2) ?_));refine bB (k+1) (by omega) ?_ ?_
   ·exact hd [(20000,85)] rfl (aI (aI (eB (by omega)) rfl) trivial) ⟨trivial,⟨⟨rfl,rfl⟩,⟨rfl,rfl⟩,⟨rfl,rfl⟩,rfl,rfl,trivial⟩,trivial,⟨⟨rfl,rfl⟩,⟨rfl,rfl⟩,trivial⟩,trivial,⟨rfl,rfl,⟨rfl,rfl⟩,trivial⟩,⟨rfl,pR _⟩,⟨rfl,nP⟩,trivial⟩
   ·show((ah xs x).2.2.2.2.length-1)-(k+1)<((ah xs x).2.2.2.2.length-1)-k;omega
  ·have hke:k=((ah xs x).2.2.2.2.length-1):=by
    have q4:decide (((k+1:Nat):Int)≤((((ah xs x).2.2.2.2.length-1):Nat):Int))=false:=q3;simp only[qP]at q4;omega
   have hR:=vV (lv:=(ah xs y).2.1) (x:=x) h1R k;rw[h1l]at hR;have hAk:=uK (lv:=(ah xs y).2.1) (x:=x) h1A (h1 h0) h1R k fun i hi=>hxi i (by omega)
   rw[h1l]at hAk;refine Or.inl (eI _ (aI (bM y 1) ?_));refine Or.inr (eI _ (eI _ (aI (moveB (oC (ah xs y).2.1 x (xs.length+1) (bD xs y (ah xs x).2.2.1) k) us pk tr (y,1) (iO (xs.length+1) k) hAk (mh (h1 hy1) k) hR) ?_)));refine aI (by kernel_rfl) ?_;refine fin [(10003,20000)] (aI rfl ?_);refine⟨trivial,⟨rfl,rfl,⟨rfl,rfl⟩,trivial⟩,⟨?_,pR _⟩,⟨rfl,nP⟩,trivial⟩;show dA (oC (ah xs y).2.1 x (xs.length+1) (bD xs y (ah xs x).2.2.1) k) (y,1) (iO (xs.length+1) k)=dx xs x y;unfold dx;rw[show((ah xs y).1==11)=false from q1,hke];rfl
theorem Jv:bK Tryz.prog 57=true:=by kernel_rfl
theorem Pw(x y:aj):aN Tryz.prog 57 [.rp aG x,.rp aG y] (.int .i64 (bF x y)):=by
 refine aN.intro (nt:=70) aJ mixed Jv Tryz.func57 rfl rfl rfl rfl rfl ?_;refine aI (by kernel_rfl) ?_;refine aI (fun q1=> ?_) (fun q1=> ?_)
 ·refine⟨?_,rfl⟩;unfold bF;rw[show iB x y=true from q1];rfl
 refine aI (by kernel_rfl) ?_;refine aI (fun q2=> ?_) (fun q2=> ?_)
 ·refine⟨?_,rfl⟩;unfold bF;rw[show iB x y=false from q1,show mq x y=true from q2];rfl
 refine Or.inl (eI _ (aI (K5 _ _ _ _) ?_));refine aI (by kernel_rfl) ?_;refine⟨?_,rfl⟩;unfold bF;rw[show iB x y=false from q1,show mq x y=false from q2];rfl
theorem Gn(xs:List aj)(us:List Value)(i j:Int):aA Tryz.prog 57 [.ep 10000 5 i 0,.ep 10000 5 j 0] [.row 10000 111 5 aG xs us] (.int .i64 (bF (ah xs i) (ah xs j))) [.row 10000 111 5 aG xs us]:=
 aA.o9 aJ [0,0] Jv (Pw (ah xs i) (ah xs j)) rfl
theorem Df:bK Tryz.prog 105=true:=by kernel_rfl
theorem KF(xs:List aj)(a b:Int)(ha:0≤a∧a<(xs.length:Nat))(hb:0≤b∧b<(xs.length:Nat)):aN Tryz.prog 105 [.rp bO xs,.int .i64 a,.int .i64 b] (.tup [.int .i64 (aC xs a b).1,.int .i64 (aC xs a b).2]):=by
 refine aN.intro (nt:=44) aJ mixed Df Tryz.func105 rfl rfl rfl rfl rfl ?_;refine aI ha ?_;refine aI hb ?_;refine Or.inl (eI _ (aI (PY _ _ _ _) ?_));refine aI (by kernel_rfl) ?_;refine aI (fun q1=> ?_) (fun q1=> ?_)
 ·have e:aC xs a b=(b,a):=by unfold aC;rw[show(aX (ah xs a).1 (ah xs a).2.1 (ah xs b).1 (ah xs b).2.1==2)=true from q1];rfl
  rw[e];exact rfl
 ·have e:aC xs a b=(a,b):=by unfold aC;rw[show(aX (ah xs a).1 (ah xs a).2.1 (ah xs b).1 (ah xs b).2.1==2)=false from q1];rfl
  rw[e];exact rfl
theorem maxS(a b:Int):aN Tryz.prog 59 [.int .i64 a,.int .i64 b] (.int .i64 (G5 a b)):=by
 refine aN.intro (nt:=10) aJ mixed (by kernel_rfl) Tryz.func59 rfl rfl rfl rfl rfl ?_;refine aI (fun q1=> ?_) (fun q1=> ?_)
 ·refine⟨?_,rfl⟩;unfold G5;rw[show decide (b<a)=true from q1];rfl
 ·refine⟨?_,rfl⟩;unfold G5;rw[show decide (b<a)=false from q1];rfl
theorem Xx(t:List aj)(hl:t.length≤2000000):aN Tryz.prog 143 [.rp bO t] (.int .i64 (lu t t.length)):=by
 refine aN.intro (nt:=25) aJ mixed (by kernel_rfl) Tryz.func143 rfl rfl rfl rfl rfl ?_;refine lp Nat (fun k=>[(4,.int .i64 (k:Nat)),(3,.int .i64 (lu t k))]) (fun _=>[]) (fun k=>t.length-k) (fun k=>k≤t.length) 0 (Nat.zero_le _) ?_ ?_
 ·exact hd [] rfl (aI (aI rfl rfl) (aI (aI rfl rfl) trivial)) trivial
 intro k hk;refine aI (fun q1=> ?_) (fun q1=> ?_)
 ·have hlt:k<t.length:=by simpa using q1
  refine aI (show 0≤((k:Nat):Int)∧((k:Nat):Int)<(t.length:Nat) by omega) ?_;refine Or.inl (eI _ (aI (maxS _ _) ?_));refine bB (k+1) hlt ?_ ?_
  ·exact hd [] rfl (aI (aI (eB (by omega)) rfl) (aI (aI rfl rfl) trivial)) trivial
  ·show t.length-(k+1)<t.length-k;omega
 ·have hge:t.length≤k:=by simpa using q1
  have hke:k=t.length:=by omega
  subst hke;exact⟨rfl,rfl⟩
theorem Dh:bK Tryz.prog 60=true:=by kernel_rfl
theorem MN(t:List aj)(hl:t.length≤1000000):aN Tryz.prog 60 [.rp bO t] (.int .i64 (dh t t.length:Nat)):=by
 refine aN.intro (nt:=26) aJ mixed Dh Tryz.func60 rfl rfl rfl rfl rfl ?_;refine lp Nat (fun k=>[(4,.int .i64 (k:Nat)),(3,.int .i64 (dh t k:Nat))]) (fun _=>[]) (fun k=>t.length-k) (fun k=>k≤t.length) 0 (Nat.zero_le _) ?_ ?_
 ·exact hd [] rfl (aI (aI rfl rfl) (aI (aI rfl rfl) trivial)) trivial
 intro k hk;refine aI (fun q1=> ?_) (fun q1=> ?_)
 ·have hlt:k<t.length:=by simpa using q1
  have hle:=Fw t k;refine aI (show 0≤((k:Nat):Int)∧((k:Nat):Int)<(t.length:Nat) by omega) ?_;refine aI (fun q2=> ?_) (fun q2=> ?_)
  ·refine bB (k+1) hlt ?_ ?_
   ·refine hd [] rfl (aI (aI (eB (by omega)) rfl) (aI (aI ?_ rfl) trivial)) trivial;show IntKind.i64.wrap ((dh t k:Nat)+1)=((dh t (k+1):Nat):Int);rw[eB (by omega)];rw[show dh t (k+1)=(bif (ah t (k:Nat)).1 !=0 then dh t k+1 else dh t k) from rfl,show((ah t (k:Nat)).1 !=0)=true from q2];rfl
   ·show t.length-(k+1)<t.length-k;omega
  ·refine bB (k+1) hlt ?_ ?_
   ·refine hd [] rfl (aI (aI (eB (by omega)) rfl) (aI (aI ?_ rfl) trivial)) trivial;show((dh t k:Nat):Int)=((dh t (k+1):Nat):Int);rw[show dh t (k+1)=(bif (ah t (k:Nat)).1 !=0 then dh t k+1 else dh t k) from rfl,show((ah t (k:Nat)).1 !=0)=false from q2];rfl
   ·show t.length-(k+1)<t.length-k;omega
 ·have hge:t.length≤k:=by simpa using q1
  have hke:k=t.length:=by omega
  subst hke;exact⟨rfl,rfl⟩
theorem tJ{p lo hi d:Int}(h:dS p lo hi=true):jR p lo hi d=(IntKind.i64.wrap (p+d),0):=by
 obtain⟨h1,h2⟩:=jS h;unfold jR;rw[show decide (p<lo)=false by simpa using h1,show decide (hi<p)=false by simpa using h2];rfl
theorem Qd{p lo hi d:Int}(h:dS p lo hi=false):jR p lo hi d=(0,2):=by
 rcases Qk h with h1|h1
 ·unfold jR;rw[show decide (p<lo)=true by simpa using h1];rfl
 ·unfold jR;rw[show decide (hi<p)=true by simpa using h1];cases decide (p<lo)<;>rfl
theorem zf(c p:Int):aN Tryz.prog 144 [.int .i64 c,.int .i64 p] (.tup [.int .i64 (dG c p).1,.int .i64 (dG c p).2]):=by
 have leafT:∀{lo hi d v:Int},dG c p=jR p lo hi d→(dS p lo hi=true→v=IntKind.i64.wrap (p+d))→∀q:(!(dS p lo hi))=false,(SV.tup [.int .i64 v,.int .i64 0]:SV)=.tup [.int .i64 (dG c p).1,.int .i64 (dG c p).2]:=fun {lo hi d v} e hv q=>by
  have h:dS p lo hi=true:=by simpa using q
  rw[e,tJ h,hv h]
 have leafF:∀{lo hi d:Int},dG c p=jR p lo hi d→∀q:(!(dS p lo hi))=true,(SV.tup [.int .i64 0,.int .i64 2]:SV)=.tup [.int .i64 (dG c p).1,.int .i64 (dG c p).2]:=fun {lo hi d} e q=>by
  have h:dS p lo hi=false:=by simpa using q
  rw[e,Qd h]
 refine aN.intro (nt:=36) aJ mixed (by kernel_rfl) Tryz.func144 rfl rfl rfl rfl rfl ?_;refine aI (fun q1=> ?_) (fun q1=> ?_)
 ·refine aI (fun _=> ?_) (fun h=>by rw[show(c==1)=true from q1]at h;cases h);refine Or.inl (eI _ (aI (Fg _ _ _) ?_));refine aI (fun q=> ?_) (fun q=> ?_)
  ·exact leafF (lo:=0) (hi:=0) (d:= -2) (by simp only[dG,q1,qG,qH]) q
  ·exact leafT (lo:=0) (hi:=0) (d:= -2) (by simp only[dG,q1,qG,qH]) (fun h=>by obtain⟨h1,h2⟩:=jS h;have e0:p=0:=(by omega);subst e0;rfl) q
 refine aI (fun q2=> ?_) (fun q2=> ?_)
 ·refine Or.inl (eI _ (aI (Fg _ _ _) ?_));refine aI (fun q=> ?_) (fun q=> ?_)
  ·exact leafF (lo:=0) (hi:=0) (d:= -2) (by simp only[dG,q1,q2,qG,qH]) q
  ·exact leafT (lo:=0) (hi:=0) (d:= -2) (by simp only[dG,q1,q2,qG,qH]) (fun h=>by obtain⟨h1,h2⟩:=jS h;have e0:p=0:=(by omega);subst e0;rfl) q
 refine aI (fun q3=> ?_) (fun q3=> ?_)
 ·refine Or.inl (eI _ (aI (Fg _ _ _) ?_));refine aI (fun q=> ?_) (fun q=> ?_)
  ·exact leafF (lo:=0) (hi:=3) (d:=0) (by simp only[dG,q1,q2,q3,qG,qH]) q
  ·exact leafT (lo:=0) (hi:=3) (d:=0) (by simp only[dG,q1,q2,q3,qG,qH]) (fun h=>by obtain⟨h1,h2⟩:=jS h;rw[qO _ (by omega)];omega) q
 refine aI (fun q4=> ?_) (fun q4=> ?_)
 ·refine Or.inl (eI _ (aI (Fg _ _ _) ?_));refine aI (fun q=> ?_) (fun q=> ?_)
  ·exact leafF (lo:=0) (hi:=3) (d:= -2) (by simp only[dG,q1,q2,q3,q4,qG,qH]) q
  ·exact leafT (lo:=0) (hi:=3) (d:= -2) (by simp only[dG,q1,q2,q3,q4,qG,qH]) (fun _=>rfl) q
 refine aI (fun q5=> ?_) (fun q5=> ?_)
 ·refine Or.inl (eI _ (aI (Fg _ _ _) ?_));refine aI (fun q=> ?_) (fun q=> ?_)
  ·exact leafF (lo:=0) (hi:=0) (d:= -1) (by simp only[dG,q1,q2,q3,q4,q5,qG,qH]) q
  ·exact leafT (lo:=0) (hi:=0) (d:= -1) (by simp only[dG,q1,q2,q3,q4,q5,qG,qH]) (fun h=>by obtain⟨h1,h2⟩:=jS h;have e0:p=0:=(by omega);subst e0;rfl) q
 refine aI (fun q6=> ?_) (fun q6=> ?_)
 ·refine Or.inl (eI _ (aI (Fg _ _ _) ?_));refine aI (fun q=> ?_) (fun q=> ?_)
  ·exact leafF (lo:=0) (hi:=3) (d:= -1) (by simp only[dG,q1,q2,q3,q4,q5,q6,qG,qH]) q
  ·exact leafT (lo:=0) (hi:=3) (d:= -1) (by simp only[dG,q1,q2,q3,q4,q5,q6,qG,qH]) (fun _=>rfl) q
 refine aI (fun q7=> ?_) (fun q7=> ?_)
 ·refine Or.inl (eI _ (aI (Fg _ _ _) ?_));refine aI (fun q=> ?_) (fun q=> ?_)
  ·exact leafF (lo:=2) (hi:=600) (d:= -2) (by simp only[dG,q1,q2,q3,q4,q5,q6,q7,qG,qH]) q
  ·exact leafT (lo:=2) (hi:=600) (d:= -2) (by simp only[dG,q1,q2,q3,q4,q5,q6,q7,qG,qH]) (fun _=>rfl) q
 ·have e:dG c p=(0,2):=by simp only[dG,q1,q2,q3,q4,q5,q6,q7,qG,qH]
  rw[e];exact rfl
theorem Zh(xs:List aj)(us:List Value)(x y:Int)(hA:bf xs)(h0:ak xs (0,0))(hl:xs.length≤900000)(hx1:ak xs (x,1))(hx2:ak xs (x,2))(hy:0≤y∧y<(xs.length:Nat))(hp:(ah xs y).2.2.2.2.length≤1000)(hdt:(ah xs y).2.2.2.1.length≤1000000)(hp0:0<(ah xs y).2.2.2.2.length):
  aA Tryz.prog 107 [.ptr 10000 0,.int .i64 x,.int .i64 y] (tA xs us) (.tup []) (J3 10002 (bH xs x y) us):=by
 have hx:0≤x∧x<(xs.length:Nat):=⟨hx1.1,hx1.2.1⟩;refine aA.intro (nt:=102) aJ mixed QO Tryz.func107 rfl rfl rfl rfl rfl rfl ?_;refine aI hx ?_;refine aI hy ?_;refine Or.inr (eI _ (eI _ (aI (Aq xs us y (by omega) (by omega)) ?_)));refine Or.inr (eI _ (eI _ (aI (Gb xs us (ah xs y).1 (ah xs y).2.1 (ah xs y).2.2.1 (ah xs y).2.2.2.2.length (ah xs y).2.2.2.1 (by omega) (by omega) (by omega)) ?_)));have hadd2:=Gb (xs++[lq xs y]) us (ah xs y).1 (ah xs y).2.1 (ah xs y).2.2.1 (ah xs y).2.2.2.2.length (ah xs y).2.2.2.1 (by rw[qA,qJ];omega) (by omega) (by omega)
 rw[show(xs++[lq xs y]).length=xs.length+1 by simp]at hadd2;refine Or.inr (eI _ (eI _ (aI hadd2 ?_)));have h2A:=vZ (y:=y) hA h0
 have hFS:∀k,(aZ (ah xs x).2.1 ((xs.length:Nat):Int) ((xs.length+1:Nat):Int) (dup2 xs y) k)=dF x ((xs.length:Nat):Int) ((xs.length+1:Nat):Int) (dup2 xs y) k:=fun k=>by
  have h:=(j5 (x:=x) (c:=((xs.length:Nat):Int)) (d:=((xs.length+1:Nat):Int)) (xs:=dup2 xs y) (by rw[gK];omega) k).1;have e:(ah (dup2 xs y) x).2.1=(ah xs x).2.1:=by unfold dup2;rw[qF,dw (by omega)]
  rw[e]at h;exact h
 have hcd:∀i:Nat,i≤((ah xs y).2.2.2.2.length-1)→ak (dup2 xs y) (((xs.length:Nat):Int),(i:Nat))∧ak (dup2 xs y) (((xs.length+1:Nat):Int),(i:Nat)):=fun i hi=>⟨qb (by omega) (by omega),qg (by omega) (by omega)⟩
 refine lp Nat (fun k=>[(11,.int .i64 ((k+1:Nat):Int))]) (fun k=>[.dD 10000 30 [.sl 20000],.row 20000 111 5 aG (aZ (ah xs x).2.1 ((xs.length:Nat):Int) ((xs.length+1:Nat):Int) (dup2 xs y) k) us]) (fun k=>((ah xs y).2.2.2.2.length-1)-k) (fun k=>k≤((ah xs y).2.2.2.2.length-1)) 0 (Nat.zero_le _) ?_ ?_
 ·exact hd [(20000,53)] rfl (aI (aI rfl rfl) trivial) ⟨trivial,⟨rfl,trivial⟩,⟨rfl,pR _⟩,trivial⟩
 intro k hk;have hcl:(aZ (ah xs x).2.1 ((xs.length:Nat):Int) ((xs.length+1:Nat):Int) (dup2 xs y) k).length=xs.length+2+k:=by rw[hFS,iM,gK]
 refine aI (fun q1=> ?_) (fun q1=> ?_)
 ·have q2:((k+1:Nat):Int)<((ah xs y).2.2.2.2.length:Nat):=by have q2:decide (((k+1:Nat):Int)<((ah xs y).2.2.2.2.length:Nat))=true:=q1;simpa using q2
  refine Or.inr (eI _ (eI _ (aI (uF (aZ (ah xs x).2.1 ((xs.length:Nat):Int) ((xs.length+1:Nat):Int) (dup2 xs y) k) us 4 (ah xs x).2.1 0 3 (by rw[hcl];omega) (by omega)) ?_)));have hc:=hcd (k+1) (by omega);have hin:∀{p},ak (dup2 xs y) p→ak (aZ (ah xs x).2.1 ((xs.length:Nat):Int) ((xs.length+1:Nat):Int) (dup2 xs y) k) p:=fun h=>by rw[hFS];exact bV h k
  refine Or.inl (eI _ (aI (bM _ 1) ?_));refine Or.inl (eI _ (aI (bM _ _) ?_));refine Or.inr (eI _ (eI _ (aI (Fq ((aZ (ah xs x).2.1 ((xs.length:Nat):Int) ((xs.length+1:Nat):Int) (dup2 xs y) k)++[bg 4 (ah xs x).2.1 0 [] 3]) us (((aZ (ah xs x).2.1 ((xs.length:Nat):Int) ((xs.length+1:Nat):Int) (dup2 xs y) k).length:Nat),1) (((xs.length:Nat):Int),((k+1:Nat):Int)) (ak.new (by decide) (by decide)) (hin hc.1).app) ?_)));refine Or.inl (eI _ (aI (bM _ 2) ?_));refine Or.inl (eI _ (aI (bM _ _) ?_));refine Or.inr (eI _ (eI _ (aI (Fq (bL ((aZ (ah xs x).2.1 ((xs.length:Nat):Int) ((xs.length+1:Nat):Int) (dup2 xs y) k)++[bg 4 (ah xs x).2.1 0 [] 3]) (((aZ (ah xs x).2.1 ((xs.length:Nat):Int) ((xs.length+1:Nat):Int) (dup2 xs y) k).length:Nat),1) (((xs.length:Nat):Int),((k+1:Nat):Int))) us (((aZ (ah xs x).2.1 ((xs.length:Nat):Int) ((xs.length+1:Nat):Int) (dup2 xs y) k).length:Nat),2) (((xs.length+1:Nat):Int),((k+1:Nat):Int)) (ak.link (ak.new (by decide) (by decide))) (hin hc.2).app.link) ?_)))
  refine bB (k+1) (by omega) ?_ ?_
  ·exact hd [(20000,61)] rfl (aI (aI (eB (by omega)) rfl) trivial) ⟨trivial,⟨rfl,trivial⟩,⟨rfl,pR _⟩,trivial⟩
  ·show((ah xs y).2.2.2.2.length-1)-(k+1)<((ah xs y).2.2.2.2.length-1)-k;omega
 ·have q2:((ah xs y).2.2.2.2.length:Nat)≤((k+1:Nat):Int):=by have q2:decide (((k+1:Nat):Int)<((ah xs y).2.2.2.2.length:Nat))=false:=q1;simpa using q2
  have hke:k=((ah xs y).2.2.2.2.length-1):=by omega
  subst hke;have hd3:(aZ (ah xs x).2.1 ((xs.length:Nat):Int) ((xs.length+1:Nat):Int) (dup2 xs y) ((ah xs y).2.2.2.2.length-1))=dup3 xs x y:=hFS _;have h3A:bf (dup3 xs x y):=lM h2A (mD h0) _ hcd;have h3:∀{p},ak xs p→ak (dup3 xs x y) p:=fun h=>bV (mD h) _
  have hc0:ak (dup3 xs x y) (((xs.length:Nat):Int),0):=bV (qb (by decide) (by omega)) _;have hd0:ak (dup3 xs x y) (((xs.length+1:Nat):Int),0):=bV (qg (by decide) (by omega)) _;have hm1:=moveA (dup3 xs x y) us (x,1) ((xs.length:Nat),0) h3A (h3 hx1) hc0;rw[←hd3]at hm1;refine Or.inl (eI _ (aI (bM x 1) ?_));refine Or.inl (eI _ (aI (bM _ 0) ?_));refine Or.inr (eI _ (eI _ (aI hm1 ?_)));have hm2:=moveA (dA (dup3 xs x y) (x,1) ((xs.length:Nat),0)) us (x,2) (((xs.length+1:Nat):Int),0) (h3A.move (h3 hx1) hc0) (h3 hx2).move hd0.move
  rw[←hd3]at hm2;refine Or.inl (eI _ (aI (bM x 2) ?_));refine Or.inl (eI _ (aI (bM _ 0) ?_));refine Or.inr (eI _ (eI _ (aI hm2 ?_)));have h4A:bf (kE xs x y):=(h3A.move (h3 hx1) hc0).move (h3 hx2).move hd0.move
  have hyi:∀i:Nat,i<((ah xs y).2.2.2.2.length-1)→ak (kE xs x y) (y,((i:Nat):Int)+1)∧ak (kE xs x y) (((xs.length+2+i:Nat):Int),0):=fun i hi=>by
   refine⟨(h3 ⟨hy.1,hy.2,by omega,?_⟩).move.move,?_⟩
   ·show((i:Nat):Int)+1<((ah xs y).2.2.2.2.length:Nat);omega
   ·have:=(qh (x:=x) (c:=((xs.length:Nat):Int)) (d:=((xs.length+1:Nat):Int)) (xs:=dup2 xs y) hi).move (p:=(x,1)) (q:=(((xs.length:Nat):Int),0));have:=this.move (p:=(x,2)) (q:=(((xs.length+1:Nat):Int),0));rw[gK]at this;exact this
  refine lp Nat (fun k=>[(13,.int .i64 ((k+1:Nat):Int))]) (fun k=>[.dD 10000 30 [.sl 20000],.row 20000 111 5 aG (cO y (xs.length+2) (kE xs x y) k) us]) (fun k=>((ah xs y).2.2.2.2.length-1)-k) (fun k=>k≤((ah xs y).2.2.2.2.length-1)) 0 (Nat.zero_le _) ?_ ?_
  ·refine hd [] rfl (aI (aI rfl rfl) trivial) ⟨trivial,⟨rfl,trivial⟩,⟨?_,pR _⟩,trivial⟩;show dA (dA (aZ (ah xs x).2.1 ((xs.length:Nat):Int) ((xs.length+1:Nat):Int) (dup2 xs y) ((ah xs y).2.2.2.2.length-1)) (x,1) ((xs.length:Nat),0)) (x,2) (((xs.length+1:Nat):Int),0)=kE xs x y;rw[hd3];rfl
  intro k hk;refine aI (fun q1=> ?_) (fun q1=> ?_)
  ·have q2:((k+1:Nat):Int)<((ah xs y).2.2.2.2.length:Nat):=by have q2:decide (((k+1:Nat):Int)<((ah xs y).2.2.2.2.length:Nat))=true:=q1;simpa using q2
   have hyk:=hyi k (by omega);have hrp:=moveA (cO y (xs.length+2) (kE xs x y) k) us (y,((k:Nat):Int)+1) (((xs.length+2+k:Nat):Int),0) (kF h4A k fun i hi=>hyi i (by omega)) (fF hyk.1 k) (fF hyk.2 k);have e1:((k:Nat):Int)+1=((k+1:Nat):Int):=by omega
   have e2:((xs.length+2+k:Nat):Int)=IntKind.i64.wrap (((xs.length+1:Nat):Int)+((k+1:Nat):Int)):=by rw[qO _ (by omega)];omega
   rw[e1,e2]at hrp;refine Or.inl (eI _ (aI (bM y _) ?_));refine Or.inl (eI _ (aI (bM _ 0) ?_));refine Or.inr (eI _ (eI _ (aI hrp ?_)));refine bB (k+1) (by omega) ?_ ?_
   ·refine hd [] rfl (aI (aI (eB (by omega)) rfl) trivial) ⟨trivial,⟨rfl,trivial⟩,⟨?_,pR _⟩,trivial⟩;show dA (cO y (xs.length+2) (kE xs x y) k) (y,((k+1:Nat):Int)) (IntKind.i64.wrap (((xs.length+1:Nat):Int)+((k+1:Nat):Int)),0)=cO y (xs.length+2) (kE xs x y) (k+1);rw[←e2,←e1];rfl
   ·show((ah xs y).2.2.2.2.length-1)-(k+1)<((ah xs y).2.2.2.2.length-1)-k;omega
  ·have q2:((ah xs y).2.2.2.2.length:Nat)≤((k+1:Nat):Int):=by have q2:decide (((k+1:Nat):Int)<((ah xs y).2.2.2.2.length:Nat))=false:=q1;simpa using q2
   have hke:k=((ah xs y).2.2.2.2.length-1):=by omega
   refine fin [(10002,20000)] (aI rfl ?_);refine⟨trivial,⟨rfl,trivial⟩,⟨?_,pR _⟩,trivial⟩;show cO y (xs.length+2) (kE xs x y) k=bH xs x y;rw[hke];rfl
theorem Xr(xs:List aj)(us:List Value)(pk:Int)(tr:List Int)(x y:Int)(hA:bf xs)(h0:ak xs (0,0))(hl:xs.length≤900000)(hx1:ak xs (x,1))(hx2:ak xs (x,2))(hy:0≤y∧y<(xs.length:Nat))(hp:(ah xs y).2.2.2.2.length≤1000)(hdt:(ah xs y).2.2.2.1.length≤1000000)(hp0:0<(ah xs y).2.2.2.2.length):
  aA Tryz.prog 107 [.ptr 10000 0,.int .i64 x,.int .i64 y] (tB xs us pk tr) (.tup []) (U5 10003 (bH xs x y) us pk tr):=by
 have hx:0≤x∧x<(xs.length:Nat):=⟨hx1.1,hx1.2.1⟩;refine aA.intro (nt:=102) aJ mixed QO Tryz.func107 rfl rfl rfl rfl rfl rfl ?_;refine aI hx ?_;refine aI hy ?_;refine Or.inr (eI _ (eI _ (aI (Aq xs us y (by omega) (by omega)) ?_)));refine Or.inr (eI _ (eI _ (aI (Gc xs us pk tr (ah xs y).1 (ah xs y).2.1 (ah xs y).2.2.1 (ah xs y).2.2.2.2.length (ah xs y).2.2.2.1 (by omega) (by omega) (by omega)) ?_)));have hadd2:=Gc (xs++[lq xs y]) us pk tr (ah xs y).1 (ah xs y).2.1 (ah xs y).2.2.1 (ah xs y).2.2.2.2.length (ah xs y).2.2.2.1 (by rw[qA,qJ];omega) (by omega) (by omega)
 rw[show(xs++[lq xs y]).length=xs.length+1 by simp]at hadd2;refine Or.inr (eI _ (eI _ (aI hadd2 ?_)));have h2A:=vZ (y:=y) hA h0
 have hFS:∀k,(aZ (ah xs x).2.1 ((xs.length:Nat):Int) ((xs.length+1:Nat):Int) (dup2 xs y) k)=dF x ((xs.length:Nat):Int) ((xs.length+1:Nat):Int) (dup2 xs y) k:=fun k=>by
  have h:=(j5 (x:=x) (c:=((xs.length:Nat):Int)) (d:=((xs.length+1:Nat):Int)) (xs:=dup2 xs y) (by rw[gK];omega) k).1;have e:(ah (dup2 xs y) x).2.1=(ah xs x).2.1:=by unfold dup2;rw[qF,dw (by omega)]
  rw[e]at h;exact h
 have hcd:∀i:Nat,i≤((ah xs y).2.2.2.2.length-1)→ak (dup2 xs y) (((xs.length:Nat):Int),(i:Nat))∧ak (dup2 xs y) (((xs.length+1:Nat):Int),(i:Nat)):=fun i hi=>⟨qb (by omega) (by omega),qg (by omega) (by omega)⟩
 refine lp Nat (fun k=>[(11,.int .i64 ((k+1:Nat):Int))]) (fun k=>[.dD 10000 56 [.sl 20000,.sl 10002,.int .i64 pk],.row 20000 111 5 aG (aZ (ah xs x).2.1 ((xs.length:Nat):Int) ((xs.length+1:Nat):Int) (dup2 xs y) k) us,.row 10002 2 1 (.int .i64) tr []]) (fun k=>((ah xs y).2.2.2.2.length-1)-k) (fun k=>k≤((ah xs y).2.2.2.2.length-1)) 0 (Nat.zero_le _) ?_ ?_
 ·exact hd [(20000,53)] rfl (aI (aI rfl rfl) trivial) ⟨trivial,⟨rfl,rfl,⟨rfl,rfl⟩,trivial⟩,⟨rfl,pR _⟩,⟨rfl,nP⟩,trivial⟩
 intro k hk;have hcl:(aZ (ah xs x).2.1 ((xs.length:Nat):Int) ((xs.length+1:Nat):Int) (dup2 xs y) k).length=xs.length+2+k:=by rw[hFS,iM,gK]
 refine aI (fun q1=> ?_) (fun q1=> ?_)
 ·have q2:((k+1:Nat):Int)<((ah xs y).2.2.2.2.length:Nat):=by have q2:decide (((k+1:Nat):Int)<((ah xs y).2.2.2.2.length:Nat))=true:=q1;simpa using q2
  refine Or.inr (eI _ (eI _ (aI (uG (aZ (ah xs x).2.1 ((xs.length:Nat):Int) ((xs.length+1:Nat):Int) (dup2 xs y) k) us pk tr 4 (ah xs x).2.1 0 3 (by rw[hcl];omega) (by omega)) ?_)));have hc:=hcd (k+1) (by omega);have hin:∀{p},ak (dup2 xs y) p→ak (aZ (ah xs x).2.1 ((xs.length:Nat):Int) ((xs.length+1:Nat):Int) (dup2 xs y) k) p:=fun h=>by rw[hFS];exact bV h k
  refine Or.inl (eI _ (aI (bM _ 1) ?_));refine Or.inl (eI _ (aI (bM _ _) ?_));refine Or.inr (eI _ (eI _ (aI (Fu ((aZ (ah xs x).2.1 ((xs.length:Nat):Int) ((xs.length+1:Nat):Int) (dup2 xs y) k)++[bg 4 (ah xs x).2.1 0 [] 3]) us pk tr (((aZ (ah xs x).2.1 ((xs.length:Nat):Int) ((xs.length+1:Nat):Int) (dup2 xs y) k).length:Nat),1) (((xs.length:Nat):Int),((k+1:Nat):Int)) (ak.new (by decide) (by decide)) (hin hc.1).app) ?_)));refine Or.inl (eI _ (aI (bM _ 2) ?_));refine Or.inl (eI _ (aI (bM _ _) ?_));refine Or.inr (eI _ (eI _ (aI (Fu (bL ((aZ (ah xs x).2.1 ((xs.length:Nat):Int) ((xs.length+1:Nat):Int) (dup2 xs y) k)++[bg 4 (ah xs x).2.1 0 [] 3]) (((aZ (ah xs x).2.1 ((xs.length:Nat):Int) ((xs.length+1:Nat):Int) (dup2 xs y) k).length:Nat),1) (((xs.length:Nat):Int),((k+1:Nat):Int))) us pk tr (((aZ (ah xs x).2.1 ((xs.length:Nat):Int) ((xs.length+1:Nat):Int) (dup2 xs y) k).length:Nat),2) (((xs.length+1:Nat):Int),((k+1:Nat):Int)) (ak.link (ak.new (by decide) (by decide))) (hin hc.2).app.link) ?_)))
  refine bB (k+1) (by omega) ?_ ?_
  ·exact hd [(20000,61)] rfl (aI (aI (eB (by omega)) rfl) trivial) ⟨trivial,⟨rfl,rfl,⟨rfl,rfl⟩,trivial⟩,⟨rfl,pR _⟩,⟨rfl,nP⟩,trivial⟩
  ·show((ah xs y).2.2.2.2.length-1)-(k+1)<((ah xs y).2.2.2.2.length-1)-k;omega
 ·have q2:((ah xs y).2.2.2.2.length:Nat)≤((k+1:Nat):Int):=by have q2:decide (((k+1:Nat):Int)<((ah xs y).2.2.2.2.length:Nat))=false:=q1;simpa using q2
  have hke:k=((ah xs y).2.2.2.2.length-1):=by omega
  subst hke;have hd3:(aZ (ah xs x).2.1 ((xs.length:Nat):Int) ((xs.length+1:Nat):Int) (dup2 xs y) ((ah xs y).2.2.2.2.length-1))=dup3 xs x y:=hFS _;have h3A:bf (dup3 xs x y):=lM h2A (mD h0) _ hcd;have h3:∀{p},ak xs p→ak (dup3 xs x y) p:=fun h=>bV (mD h) _
  have hc0:ak (dup3 xs x y) (((xs.length:Nat):Int),0):=bV (qb (by decide) (by omega)) _;have hd0:ak (dup3 xs x y) (((xs.length+1:Nat):Int),0):=bV (qg (by decide) (by omega)) _;have hm1:=moveB (dup3 xs x y) us pk tr (x,1) ((xs.length:Nat),0) h3A (h3 hx1) hc0;rw[←hd3]at hm1;refine Or.inl (eI _ (aI (bM x 1) ?_));refine Or.inl (eI _ (aI (bM _ 0) ?_));refine Or.inr (eI _ (eI _ (aI hm1 ?_)));have hm2:=moveB (dA (dup3 xs x y) (x,1) ((xs.length:Nat),0)) us pk tr (x,2) (((xs.length+1:Nat):Int),0) (h3A.move (h3 hx1) hc0) (h3 hx2).move hd0.move
  rw[←hd3]at hm2;refine Or.inl (eI _ (aI (bM x 2) ?_));refine Or.inl (eI _ (aI (bM _ 0) ?_));refine Or.inr (eI _ (eI _ (aI hm2 ?_)));have h4A:bf (kE xs x y):=(h3A.move (h3 hx1) hc0).move (h3 hx2).move hd0.move
  have hyi:∀i:Nat,i<((ah xs y).2.2.2.2.length-1)→ak (kE xs x y) (y,((i:Nat):Int)+1)∧ak (kE xs x y) (((xs.length+2+i:Nat):Int),0):=fun i hi=>by
   refine⟨(h3 ⟨hy.1,hy.2,by omega,?_⟩).move.move,?_⟩
   ·show((i:Nat):Int)+1<((ah xs y).2.2.2.2.length:Nat);omega
   ·have:=(qh (x:=x) (c:=((xs.length:Nat):Int)) (d:=((xs.length+1:Nat):Int)) (xs:=dup2 xs y) hi).move (p:=(x,1)) (q:=(((xs.length:Nat):Int),0));have:=this.move (p:=(x,2)) (q:=(((xs.length+1:Nat):Int),0));rw[gK]at this;exact this
  refine lp Nat (fun k=>[(13,.int .i64 ((k+1:Nat):Int))]) (fun k=>[.dD 10000 56 [.sl 20000,.sl 10002,.int .i64 pk],.row 20000 111 5 aG (cO y (xs.length+2) (kE xs x y) k) us,.row 10002 2 1 (.int .i64) tr []]) (fun k=>((ah xs y).2.2.2.2.length-1)-k) (fun k=>k≤((ah xs y).2.2.2.2.length-1)) 0 (Nat.zero_le _) ?_ ?_
  ·refine hd [] rfl (aI (aI rfl rfl) trivial) ⟨trivial,⟨rfl,rfl,⟨rfl,rfl⟩,trivial⟩,⟨?_,pR _⟩,⟨rfl,nP⟩,trivial⟩;show dA (dA (aZ (ah xs x).2.1 ((xs.length:Nat):Int) ((xs.length+1:Nat):Int) (dup2 xs y) ((ah xs y).2.2.2.2.length-1)) (x,1) ((xs.length:Nat),0)) (x,2) (((xs.length+1:Nat):Int),0)=kE xs x y;rw[hd3];rfl
  intro k hk;refine aI (fun q1=> ?_) (fun q1=> ?_)
  ·have q2:((k+1:Nat):Int)<((ah xs y).2.2.2.2.length:Nat):=by have q2:decide (((k+1:Nat):Int)<((ah xs y).2.2.2.2.length:Nat))=true:=q1;simpa using q2
   have hyk:=hyi k (by omega);have hrp:=moveB (cO y (xs.length+2) (kE xs x y) k) us pk tr (y,((k:Nat):Int)+1) (((xs.length+2+k:Nat):Int),0) (kF h4A k fun i hi=>hyi i (by omega)) (fF hyk.1 k) (fF hyk.2 k);have e1:((k:Nat):Int)+1=((k+1:Nat):Int):=by omega
   have e2:((xs.length+2+k:Nat):Int)=IntKind.i64.wrap (((xs.length+1:Nat):Int)+((k+1:Nat):Int)):=by rw[qO _ (by omega)];omega
   rw[e1,e2]at hrp;refine Or.inl (eI _ (aI (bM y _) ?_));refine Or.inl (eI _ (aI (bM _ 0) ?_));refine Or.inr (eI _ (eI _ (aI hrp ?_)));refine bB (k+1) (by omega) ?_ ?_
   ·refine hd [] rfl (aI (aI (eB (by omega)) rfl) trivial) ⟨trivial,⟨rfl,rfl,⟨rfl,rfl⟩,trivial⟩,⟨?_,pR _⟩,⟨rfl,nP⟩,trivial⟩;show dA (cO y (xs.length+2) (kE xs x y) k) (y,((k+1:Nat):Int)) (IntKind.i64.wrap (((xs.length+1:Nat):Int)+((k+1:Nat):Int)),0)=cO y (xs.length+2) (kE xs x y) (k+1);rw[←e2,←e1];rfl
   ·show((ah xs y).2.2.2.2.length-1)-(k+1)<((ah xs y).2.2.2.2.length-1)-k;omega
  ·have q2:((ah xs y).2.2.2.2.length:Nat)≤((k+1:Nat):Int):=by have q2:decide (((k+1:Nat):Int)<((ah xs y).2.2.2.2.length:Nat))=false:=q1;simpa using q2
   have hke:k=((ah xs y).2.2.2.2.length-1):=by omega
   refine fin [(10003,20000)] (aI rfl ?_);refine⟨trivial,⟨rfl,rfl,⟨rfl,rfl⟩,trivial⟩,⟨?_,pR _⟩,⟨rfl,nP⟩,trivial⟩;show cO y (xs.length+2) (kE xs x y) k=bH xs x y;rw[hke];rfl
theorem QU:bK Tryz.prog 112=true:=by kernel_rfl
theorem Zk(t:List aj)(xs:List aj)(us:List Value)(x y:Int)(lv:Int)(hlv0:(ah xs x).2.1=lv)(hx:0≤x∧x<(xs.length:Nat))(hl:xs.length≤900000)(hs:dH t)(ht:1≤t.length)(htl:t.length≤1000)(ht0:0<(ah t 0).2.2.2.2.length)(hlv1:0≤lv∧lv≤8)(hlt8:∀i:Nat,0≤(ah t i).2.1∧(ah t i).2.1≤8)
  (hpt:∀i j:Nat,sV (elt (dflt aR) (ah t (i:Nat)).2.2.2.2 (j:Nat)).1) (hy:ak xs (y,0)) (htop:ak (xs++jq lv ((xs.length:Nat)-1:Int) t (t.length-1)) (((xs.length:Nat)-1:Int)+(au t (0,0)).1,(au t (0,0)).2)):
  aA Tryz.prog 112 [.rp bO t,.ptr 10000 0,.int .i64 x,.int .i64 y] (tA xs us) (.tup []) (J3 10002 (eU t lv xs y) us):=by
 subst hlv0;refine aA.intro (nt:=99) aJ mixed QU Tryz.func112 rfl rfl rfl rfl rfl rfl ?_;refine aI hx ?_;have hwb:IntKind.i64.wrap ((xs.length:Nat)-1)=((xs.length:Nat)-1:Int):=qO _ (by omega);generalize hlve:(ah xs x).2.1=lv at*;refine lp Nat (fun k=>[(10,.int .i64 ((k+1:Nat):Int)),(8,.int .i64 lv),(9,.int .i64 ((xs.length:Nat)-1:Int))]) (fun k=>[.dD 10000 30 [.sl 20000],.row 20000 111 5 aG (xs++jq lv ((xs.length:Nat)-1:Int) t k) us]) (fun k=>t.length-1-k) (fun k=>k+1≤t.length) 0 ht ?_ ?_
 ·refine hd [(20000,10001)] rfl (aI (aI rfl rfl) (aI (aI hlve rfl) (aI (aI hwb rfl) trivial))) ⟨trivial,⟨rfl,trivial⟩,⟨?_,pR _⟩,trivial⟩;show xs=(xs++jq lv ((xs.length:Nat)-1:Int) t 0);unfold jq;simp
 intro k hk;refine aI (fun q1=> ?_) (fun q1=> ?_)
 ·have hlt:k+1<t.length:=by
   have q2:decide (((k+1:Nat):Int)<(t.length:Nat))=true:=q1;have q3:((k+1:Nat):Int)<(t.length:Nat):=by simpa using q2
   omega
  refine aI (show 0≤((k+1:Nat):Int)∧((k+1:Nat):Int)<(t.length:Nat) by omega) ?_;refine Or.inr (eI _ (eI _ (aI (Ht (ah t ((k+1:Nat):Int)) (hs.2 (k+1)).1 (hs.2 (k+1)).2) ?_)));refine Or.inl (eI _ (aI (BL _) ?_));have hl8:=hlt8 (k+1);refine aI (fun q2=> ?_) (fun q2=> ?_)
  ·have hlev:bR (ah t ((k+1:Nat):Int)).1=true:=q2;refine lp Nat (fun j=>[(12,.int .i64 (j:Nat))]) (fun j=>[.dD 11 111 [.int .i64 (ah t ((k+1:Nat):Int)).1,.int .i64 (IntKind.i64.wrap ((ah t ((k+1:Nat):Int)).2.1+lv)),.int .i64 (ah t ((k+1:Nat):Int)).2.2.1,.sl 43,.sl 21001],.dD 10000 30 [.sl 21000],.row 21000 111 5 aG (xs++jq lv ((xs.length:Nat)-1:Int) t k) us,.row 43 2 1 (.int .i64) (ah t ((k+1:Nat):Int)).2.2.2.1 [],.row 21001 86 2 aR (dQ ((xs.length:Nat)-1:Int) (ah t ((k+1:Nat):Int)).2.2.2.2 j) []]) (fun j=>(ah t ((k+1:Nat):Int)).2.2.2.2.length-j) (fun j=>j≤(ah t ((k+1:Nat):Int)).2.2.2.2.length) 0 (Nat.zero_le _) ?_ ?_
   ·exact hd [(21000,20000),(21001,1000043)] rfl (aI (aI rfl rfl) trivial) ⟨trivial,⟨⟨rfl,rfl⟩,⟨rfl,rfl⟩,⟨rfl,rfl⟩,rfl,rfl,trivial⟩,trivial,⟨rfl,trivial⟩,⟨rfl,pR _⟩,⟨rfl,nP⟩,⟨rfl,nP⟩,trivial⟩
   intro j hj;refine aI (fun q3=> ?_) (fun q3=> ?_)
   ·have hlt2:j<(ah t ((k+1:Nat):Int)).2.2.2.2.length:=by
     have q4:decide (((j:Nat):Int)<((dQ ((xs.length:Nat)-1:Int) (ah t ((k+1:Nat):Int)).2.2.2.2 j).length:Nat))=true:=q3;rw[iK]at q4;simpa using q4
    have hpv:sV (elt (dflt aR) (ah t ((k+1:Nat):Int)).2.2.2.2 (j:Nat)).1:=hpt (k+1) j;unfold sV at hpv;have hps:(ah t ((k+1:Nat):Int)).2.2.2.2.length≤1048576:=(hs.2 (k+1)).2;have hat:elt (dflt aR) (dQ ((xs.length:Nat)-1:Int) (ah t ((k+1:Nat):Int)).2.2.2.2 j) (j:Nat)=elt (dflt aR) (ah t ((k+1:Nat):Int)).2.2.2.2 (j:Nat):=tT hlt2;have hw:IntKind.i64.wrap ((elt (dflt aR) (ah t ((k+1:Nat):Int)).2.2.2.2 (j:Nat)).1+((xs.length:Nat)-1:Int))=(elt (dflt aR) (ah t ((k+1:Nat):Int)).2.2.2.2 (j:Nat)).1+((xs.length:Nat)-1:Int):=qO _ (by omega)
    have hbnd:0≤((j:Nat):Int)∧((j:Nat):Int)<((dQ ((xs.length:Nat)-1:Int) (ah t ((k+1:Nat):Int)).2.2.2.2 j).length:Nat):=by rw[iK];omega
    refine aI hbnd ?_;refine aI hbnd ?_;refine bB (j+1) hlt2 ?_ ?_
    ·refine hd [] rfl (aI (aI (eB (by omega)) rfl) trivial) ⟨trivial,⟨⟨rfl,rfl⟩,⟨rfl,rfl⟩,⟨rfl,rfl⟩,rfl,rfl,trivial⟩,trivial,⟨rfl,trivial⟩,⟨rfl,pR _⟩,⟨rfl,nP⟩,⟨?_,nP⟩,trivial⟩;show(dQ ((xs.length:Nat)-1:Int) (ah t ((k+1:Nat):Int)).2.2.2.2 j).set j (IntKind.i64.wrap ((elt (dflt aR) (dQ ((xs.length:Nat)-1:Int) (ah t ((k+1:Nat):Int)).2.2.2.2 j) (j:Nat)).1+((xs.length:Nat)-1:Int)),(elt (dflt aR) (dQ ((xs.length:Nat)-1:Int) (ah t ((k+1:Nat):Int)).2.2.2.2 j) (j:Nat)).2)=dQ ((xs.length:Nat)-1:Int) (ah t ((k+1:Nat):Int)).2.2.2.2 (j+1)
     rw[qz hlt2,hat,hw]
    ·show(ah t ((k+1:Nat):Int)).2.2.2.2.length-(j+1)<(ah t ((k+1:Nat):Int)).2.2.2.2.length-j;omega
   have hje:j=(ah t ((k+1:Nat):Int)).2.2.2.2.length:=by
    have q4:decide (((j:Nat):Int)<((dQ ((xs.length:Nat)-1:Int) (ah t ((k+1:Nat):Int)).2.2.2.2 j).length:Nat))=false:=q3;rw[iK]at q4;have q5:(ah t ((k+1:Nat):Int)).2.2.2.2.length≤j:=by simpa using q4
    omega
   refine aI (by show(xs++jq lv ((xs.length:Nat)-1:Int) t k).length+1≤_;rw[qA,y8 (by omega)];have:=hs.1;omega) ?_;refine aI (by kernel_rfl) ?_;refine bB (k+1) (by show k+1+1≤t.length;omega) ?_ ?_
   ·refine hd [(20000,76)] rfl (aI (aI (eB (by have:=hs.1;omega)) rfl) (aI (aI rfl rfl) (aI (aI rfl rfl) trivial))) ⟨trivial,⟨rfl,trivial⟩,⟨?_,pR _⟩,trivial⟩;show(xs++jq lv ((xs.length:Nat)-1:Int) t k)++[((ah t ((k+1:Nat):Int)).1,(IntKind.i64.wrap ((ah t ((k+1:Nat):Int)).2.1+lv)),(ah t ((k+1:Nat):Int)).2.2.1,(ah t ((k+1:Nat):Int)).2.2.2.1,dQ ((xs.length:Nat)-1:Int) (ah t ((k+1:Nat):Int)).2.2.2.2 j)]=(xs++jq lv ((xs.length:Nat)-1:Int) t (k+1));rw[w9 hlt,hje,tQ,qF]
    congr 2
    unfold bW iU;rw[show bR (ah t ((k+1:Nat):Int)).kind=true from hlev,qO _ (by omega)];rfl
   ·show t.length-1-(k+1)<t.length-1-k;omega
  ·have hlev:bR (ah t ((k+1:Nat):Int)).1=false:=q2;refine lp Nat (fun j=>[(12,.int .i64 (j:Nat))]) (fun j=>[.dD 11 111 [.int .i64 (ah t ((k+1:Nat):Int)).1,.int .i64 (ah t ((k+1:Nat):Int)).2.1,.int .i64 (ah t ((k+1:Nat):Int)).2.2.1,.sl 43,.sl 21001],.dD 10000 30 [.sl 21000],.row 21000 111 5 aG (xs++jq lv ((xs.length:Nat)-1:Int) t k) us,.row 43 2 1 (.int .i64) (ah t ((k+1:Nat):Int)).2.2.2.1 [],.row 21001 86 2 aR (dQ ((xs.length:Nat)-1:Int) (ah t ((k+1:Nat):Int)).2.2.2.2 j) []]) (fun j=>(ah t ((k+1:Nat):Int)).2.2.2.2.length-j) (fun j=>j≤(ah t ((k+1:Nat):Int)).2.2.2.2.length) 0 (Nat.zero_le _) ?_ ?_
   ·exact hd [(21000,20000),(21001,1000043)] rfl (aI (aI rfl rfl) trivial) ⟨trivial,⟨⟨rfl,rfl⟩,⟨rfl,rfl⟩,⟨rfl,rfl⟩,rfl,rfl,trivial⟩,trivial,⟨rfl,trivial⟩,⟨rfl,pR _⟩,⟨rfl,nP⟩,⟨rfl,nP⟩,trivial⟩
   intro j hj;refine aI (fun q3=> ?_) (fun q3=> ?_)
   ·have hlt2:j<(ah t ((k+1:Nat):Int)).2.2.2.2.length:=by
     have q4:decide (((j:Nat):Int)<((dQ ((xs.length:Nat)-1:Int) (ah t ((k+1:Nat):Int)).2.2.2.2 j).length:Nat))=true:=q3;rw[iK]at q4;simpa using q4
    have hpv:sV (elt (dflt aR) (ah t ((k+1:Nat):Int)).2.2.2.2 (j:Nat)).1:=hpt (k+1) j;unfold sV at hpv;have hps:(ah t ((k+1:Nat):Int)).2.2.2.2.length≤1048576:=(hs.2 (k+1)).2;have hat:elt (dflt aR) (dQ ((xs.length:Nat)-1:Int) (ah t ((k+1:Nat):Int)).2.2.2.2 j) (j:Nat)=elt (dflt aR) (ah t ((k+1:Nat):Int)).2.2.2.2 (j:Nat):=tT hlt2;have hw:IntKind.i64.wrap ((elt (dflt aR) (ah t ((k+1:Nat):Int)).2.2.2.2 (j:Nat)).1+((xs.length:Nat)-1:Int))=(elt (dflt aR) (ah t ((k+1:Nat):Int)).2.2.2.2 (j:Nat)).1+((xs.length:Nat)-1:Int):=qO _ (by omega)
    have hbnd:0≤((j:Nat):Int)∧((j:Nat):Int)<((dQ ((xs.length:Nat)-1:Int) (ah t ((k+1:Nat):Int)).2.2.2.2 j).length:Nat):=by rw[iK];omega
    refine aI hbnd ?_;refine aI hbnd ?_;refine bB (j+1) hlt2 ?_ ?_
    ·refine hd [] rfl (aI (aI (eB (by omega)) rfl) trivial) ⟨trivial,⟨⟨rfl,rfl⟩,⟨rfl,rfl⟩,⟨rfl,rfl⟩,rfl,rfl,trivial⟩,trivial,⟨rfl,trivial⟩,⟨rfl,pR _⟩,⟨rfl,nP⟩,⟨?_,nP⟩,trivial⟩;show(dQ ((xs.length:Nat)-1:Int) (ah t ((k+1:Nat):Int)).2.2.2.2 j).set j (IntKind.i64.wrap ((elt (dflt aR) (dQ ((xs.length:Nat)-1:Int) (ah t ((k+1:Nat):Int)).2.2.2.2 j) (j:Nat)).1+((xs.length:Nat)-1:Int)),(elt (dflt aR) (dQ ((xs.length:Nat)-1:Int) (ah t ((k+1:Nat):Int)).2.2.2.2 j) (j:Nat)).2)=dQ ((xs.length:Nat)-1:Int) (ah t ((k+1:Nat):Int)).2.2.2.2 (j+1)
     rw[qz hlt2,hat,hw]
    ·show(ah t ((k+1:Nat):Int)).2.2.2.2.length-(j+1)<(ah t ((k+1:Nat):Int)).2.2.2.2.length-j;omega
   have hje:j=(ah t ((k+1:Nat):Int)).2.2.2.2.length:=by
    have q4:decide (((j:Nat):Int)<((dQ ((xs.length:Nat)-1:Int) (ah t ((k+1:Nat):Int)).2.2.2.2 j).length:Nat))=false:=q3;rw[iK]at q4;have q5:(ah t ((k+1:Nat):Int)).2.2.2.2.length≤j:=by simpa using q4
    omega
   refine aI (by show(xs++jq lv ((xs.length:Nat)-1:Int) t k).length+1≤_;rw[qA,y8 (by omega)];have:=hs.1;omega) ?_;refine aI (by kernel_rfl) ?_;refine bB (k+1) (by show k+1+1≤t.length;omega) ?_ ?_
   ·refine hd [(20000,76)] rfl (aI (aI (eB (by have:=hs.1;omega)) rfl) (aI (aI rfl rfl) (aI (aI rfl rfl) trivial))) ⟨trivial,⟨rfl,trivial⟩,⟨?_,pR _⟩,trivial⟩;show(xs++jq lv ((xs.length:Nat)-1:Int) t k)++[((ah t ((k+1:Nat):Int)).1,(ah t ((k+1:Nat):Int)).2.1,(ah t ((k+1:Nat):Int)).2.2.1,(ah t ((k+1:Nat):Int)).2.2.2.1,dQ ((xs.length:Nat)-1:Int) (ah t ((k+1:Nat):Int)).2.2.2.2 j)]=(xs++jq lv ((xs.length:Nat)-1:Int) t (k+1));rw[w9 hlt,hje,tQ,qF]
    congr 2
    unfold bW iU;rw[show bR (ah t ((k+1:Nat):Int)).kind=false from hlev];rfl
   ·show t.length-1-(k+1)<t.length-1-k;omega
 ·have hke:k=t.length-1:=by
   have q2:decide (((k+1:Nat):Int)<(t.length:Nat))=false:=q1;have q3:(t.length:Nat)≤((k+1:Nat):Int):=by simpa using q2
   omega
  subst hke;refine aI (show(0:Int)≤0∧(0:Int)<(t.length:Nat) by omega) ?_;refine aI (show(0:Int)≤0∧(0:Int)<((ah t 0).2.2.2.2.length:Nat) by omega) ?_;have hp0:sV (au t (0,0)).1:=hpt 0 0;unfold sV at hp0;have hw:IntKind.i64.wrap (((xs.length:Nat)-1:Int)+(au t (0,0)).1)=((xs.length:Nat)-1:Int)+(au t (0,0)).1:=qO _ (by omega);have hlk:=Fq (xs++jq lv ((xs.length:Nat)-1:Int) t (t.length-1)) us (((xs.length:Nat)-1:Int)+(au t (0,0)).1,(au t (0,0)).2) (y,0) htop hy.app;rw[←hw]at hlk
  refine Or.inl (eI _ (aI (bM _ _) ?_));refine Or.inl (eI _ (aI (bM y 0) ?_));refine Or.inr (eI _ (eI _ (aI hlk ?_)));refine fin [(10002,20000)] (aI rfl ?_);refine⟨trivial,⟨rfl,trivial⟩,⟨?_,pR _⟩,trivial⟩;show bL (xs++jq lv ((xs.length:Nat)-1:Int) t (t.length-1)) (IntKind.i64.wrap (((xs.length:Nat)-1:Int)+(au t (0,0)).1),(au t (0,0)).2) (y,0)=eU t lv xs y;rw[hw];rfl
theorem expB(t:List aj)(xs:List aj)(us:List Value)(pk:Int)(tr:List Int)(x y:Int)(lv:Int)(hlv0:(ah xs x).2.1=lv)(hx:0≤x∧x<(xs.length:Nat))(hl:xs.length≤900000)(hs:dH t)(ht:1≤t.length)(htl:t.length≤1000)(ht0:0<(ah t 0).2.2.2.2.length)(hlv1:0≤lv∧lv≤8)(hlt8:∀i:Nat,0≤(ah t i).2.1∧(ah t i).2.1≤8)
  (hpt:∀i j:Nat,sV (elt (dflt aR) (ah t (i:Nat)).2.2.2.2 (j:Nat)).1) (hy:ak xs (y,0)) (htop:ak (xs++jq lv ((xs.length:Nat)-1:Int) t (t.length-1)) (((xs.length:Nat)-1:Int)+(au t (0,0)).1,(au t (0,0)).2)):
  aA Tryz.prog 112 [.rp bO t,.ptr 10000 0,.int .i64 x,.int .i64 y] (tB xs us pk tr) (.tup []) (U5 10003 (eU t lv xs y) us pk tr):=by
 subst hlv0;refine aA.intro (nt:=99) aJ mixed QU Tryz.func112 rfl rfl rfl rfl rfl rfl ?_;refine aI hx ?_;have hwb:IntKind.i64.wrap ((xs.length:Nat)-1)=((xs.length:Nat)-1:Int):=qO _ (by omega);generalize hlve:(ah xs x).2.1=lv at*;refine lp Nat (fun k=>[(10,.int .i64 ((k+1:Nat):Int)),(8,.int .i64 lv),(9,.int .i64 ((xs.length:Nat)-1:Int))]) (fun k=>[.dD 10000 56 [.sl 20000,.sl 10002,.int .i64 pk],.row 20000 111 5 aG (xs++jq lv ((xs.length:Nat)-1:Int) t k) us,.row 10002 2 1 (.int .i64) tr []]) (fun k=>t.length-1-k) (fun k=>k+1≤t.length) 0 ht ?_ ?_
 ·refine hd [(20000,10001)] rfl (aI (aI rfl rfl) (aI (aI hlve rfl) (aI (aI hwb rfl) trivial))) ⟨trivial,⟨rfl,rfl,⟨rfl,rfl⟩,trivial⟩,⟨?_,pR _⟩,⟨rfl,nP⟩,trivial⟩;show xs=(xs++jq lv ((xs.length:Nat)-1:Int) t 0);unfold jq;simp
 intro k hk;refine aI (fun q1=> ?_) (fun q1=> ?_)
 ·have hlt:k+1<t.length:=by
   have q2:decide (((k+1:Nat):Int)<(t.length:Nat))=true:=q1;have q3:((k+1:Nat):Int)<(t.length:Nat):=by simpa using q2
   omega
  refine aI (show 0≤((k+1:Nat):Int)∧((k+1:Nat):Int)<(t.length:Nat) by omega) ?_;refine Or.inr (eI _ (eI _ (aI (Ht (ah t ((k+1:Nat):Int)) (hs.2 (k+1)).1 (hs.2 (k+1)).2) ?_)));refine Or.inl (eI _ (aI (BL _) ?_));have hl8:=hlt8 (k+1);refine aI (fun q2=> ?_) (fun q2=> ?_)
  ·have hlev:bR (ah t ((k+1:Nat):Int)).1=true:=q2;refine lp Nat (fun j=>[(12,.int .i64 (j:Nat))]) (fun j=>[.dD 11 111 [.int .i64 (ah t ((k+1:Nat):Int)).1,.int .i64 (IntKind.i64.wrap ((ah t ((k+1:Nat):Int)).2.1+lv)),.int .i64 (ah t ((k+1:Nat):Int)).2.2.1,.sl 43,.sl 21001],.dD 10000 56 [.sl 21000,.sl 10002,.int .i64 pk],.row 21000 111 5 aG (xs++jq lv ((xs.length:Nat)-1:Int) t k) us,.row 10002 2 1 (.int .i64) tr [],.row 43 2 1 (.int .i64) (ah t ((k+1:Nat):Int)).2.2.2.1 [],.row 21001 86 2 aR (dQ ((xs.length:Nat)-1:Int) (ah t ((k+1:Nat):Int)).2.2.2.2 j) []]) (fun j=>(ah t ((k+1:Nat):Int)).2.2.2.2.length-j) (fun j=>j≤(ah t ((k+1:Nat):Int)).2.2.2.2.length) 0 (Nat.zero_le _) ?_ ?_
   ·exact hd [(21000,20000),(21001,1000043)] rfl (aI (aI rfl rfl) trivial) ⟨trivial,⟨⟨rfl,rfl⟩,⟨rfl,rfl⟩,⟨rfl,rfl⟩,rfl,rfl,trivial⟩,trivial,⟨rfl,rfl,⟨rfl,rfl⟩,trivial⟩,⟨rfl,pR _⟩,⟨rfl,nP⟩,⟨rfl,nP⟩,⟨rfl,nP⟩,trivial⟩
   intro j hj;refine aI (fun q3=> ?_) (fun q3=> ?_)
   ·have hlt2:j<(ah t ((k+1:Nat):Int)).2.2.2.2.length:=by
     have q4:decide (((j:Nat):Int)<((dQ ((xs.length:Nat)-1:Int) (ah t ((k+1:Nat):Int)).2.2.2.2 j).length:Nat))=true:=q3;rw[iK]at q4;simpa using q4
    have hpv:sV (elt (dflt aR) (ah t ((k+1:Nat):Int)).2.2.2.2 (j:Nat)).1:=hpt (k+1) j;unfold sV at hpv;have hps:(ah t ((k+1:Nat):Int)).2.2.2.2.length≤1048576:=(hs.2 (k+1)).2;have hat:elt (dflt aR) (dQ ((xs.length:Nat)-1:Int) (ah t ((k+1:Nat):Int)).2.2.2.2 j) (j:Nat)=elt (dflt aR) (ah t ((k+1:Nat):Int)).2.2.2.2 (j:Nat):=tT hlt2;have hw:IntKind.i64.wrap ((elt (dflt aR) (ah t ((k+1:Nat):Int)).2.2.2.2 (j:Nat)).1+((xs.length:Nat)-1:Int))=(elt (dflt aR) (ah t ((k+1:Nat):Int)).2.2.2.2 (j:Nat)).1+((xs.length:Nat)-1:Int):=qO _ (by omega)
    have hbnd:0≤((j:Nat):Int)∧((j:Nat):Int)<((dQ ((xs.length:Nat)-1:Int) (ah t ((k+1:Nat):Int)).2.2.2.2 j).length:Nat):=by rw[iK];omega
    refine aI hbnd ?_;refine aI hbnd ?_;refine bB (j+1) hlt2 ?_ ?_
    ·refine hd [] rfl (aI (aI (eB (by omega)) rfl) trivial) ⟨trivial,⟨⟨rfl,rfl⟩,⟨rfl,rfl⟩,⟨rfl,rfl⟩,rfl,rfl,trivial⟩,trivial,⟨rfl,rfl,⟨rfl,rfl⟩,trivial⟩,⟨rfl,pR _⟩,⟨rfl,nP⟩,⟨rfl,nP⟩,⟨?_,nP⟩,trivial⟩;show(dQ ((xs.length:Nat)-1:Int) (ah t ((k+1:Nat):Int)).2.2.2.2 j).set j (IntKind.i64.wrap ((elt (dflt aR) (dQ ((xs.length:Nat)-1:Int) (ah t ((k+1:Nat):Int)).2.2.2.2 j) (j:Nat)).1+((xs.length:Nat)-1:Int)),(elt (dflt aR) (dQ ((xs.length:Nat)-1:Int) (ah t ((k+1:Nat):Int)).2.2.2.2 j) (j:Nat)).2)=dQ ((xs.length:Nat)-1:Int) (ah t ((k+1:Nat):Int)).2.2.2.2 (j+1)
     rw[qz hlt2,hat,hw]
    ·show(ah t ((k+1:Nat):Int)).2.2.2.2.length-(j+1)<(ah t ((k+1:Nat):Int)).2.2.2.2.length-j;omega
   have hje:j=(ah t ((k+1:Nat):Int)).2.2.2.2.length:=by
    have q4:decide (((j:Nat):Int)<((dQ ((xs.length:Nat)-1:Int) (ah t ((k+1:Nat):Int)).2.2.2.2 j).length:Nat))=false:=q3;rw[iK]at q4;have q5:(ah t ((k+1:Nat):Int)).2.2.2.2.length≤j:=by simpa using q4
    omega
   refine aI (by show(xs++jq lv ((xs.length:Nat)-1:Int) t k).length+1≤_;rw[qA,y8 (by omega)];have:=hs.1;omega) ?_;refine aI (by kernel_rfl) ?_;refine bB (k+1) (by show k+1+1≤t.length;omega) ?_ ?_
   ·refine hd [(20000,76)] rfl (aI (aI (eB (by have:=hs.1;omega)) rfl) (aI (aI rfl rfl) (aI (aI rfl rfl) trivial))) ⟨trivial,⟨rfl,rfl,⟨rfl,rfl⟩,trivial⟩,⟨?_,pR _⟩,⟨rfl,nP⟩,trivial⟩;show(xs++jq lv ((xs.length:Nat)-1:Int) t k)++[((ah t ((k+1:Nat):Int)).1,(IntKind.i64.wrap ((ah t ((k+1:Nat):Int)).2.1+lv)),(ah t ((k+1:Nat):Int)).2.2.1,(ah t ((k+1:Nat):Int)).2.2.2.1,dQ ((xs.length:Nat)-1:Int) (ah t ((k+1:Nat):Int)).2.2.2.2 j)]=(xs++jq lv ((xs.length:Nat)-1:Int) t (k+1));rw[w9 hlt,hje,tQ,qF]
    congr 2
    unfold bW iU;rw[show bR (ah t ((k+1:Nat):Int)).kind=true from hlev,qO _ (by omega)];rfl
   ·show t.length-1-(k+1)<t.length-1-k;omega
  ·have hlev:bR (ah t ((k+1:Nat):Int)).1=false:=q2;refine lp Nat (fun j=>[(12,.int .i64 (j:Nat))]) (fun j=>[.dD 11 111 [.int .i64 (ah t ((k+1:Nat):Int)).1,.int .i64 (ah t ((k+1:Nat):Int)).2.1,.int .i64 (ah t ((k+1:Nat):Int)).2.2.1,.sl 43,.sl 21001],.dD 10000 56 [.sl 21000,.sl 10002,.int .i64 pk],.row 21000 111 5 aG (xs++jq lv ((xs.length:Nat)-1:Int) t k) us,.row 10002 2 1 (.int .i64) tr [],.row 43 2 1 (.int .i64) (ah t ((k+1:Nat):Int)).2.2.2.1 [],.row 21001 86 2 aR (dQ ((xs.length:Nat)-1:Int) (ah t ((k+1:Nat):Int)).2.2.2.2 j) []]) (fun j=>(ah t ((k+1:Nat):Int)).2.2.2.2.length-j) (fun j=>j≤(ah t ((k+1:Nat):Int)).2.2.2.2.length) 0 (Nat.zero_le _) ?_ ?_
   ·exact hd [(21000,20000),(21001,1000043)] rfl (aI (aI rfl rfl) trivial) ⟨trivial,⟨⟨rfl,rfl⟩,⟨rfl,rfl⟩,⟨rfl,rfl⟩,rfl,rfl,trivial⟩,trivial,⟨rfl,rfl,⟨rfl,rfl⟩,trivial⟩,⟨rfl,pR _⟩,⟨rfl,nP⟩,⟨rfl,nP⟩,⟨rfl,nP⟩,trivial⟩
   intro j hj;refine aI (fun q3=> ?_) (fun q3=> ?_)
   ·have hlt2:j<(ah t ((k+1:Nat):Int)).2.2.2.2.length:=by
     have q4:decide (((j:Nat):Int)<((dQ ((xs.length:Nat)-1:Int) (ah t ((k+1:Nat):Int)).2.2.2.2 j).length:Nat))=true:=q3;rw[iK]at q4;simpa using q4
    have hpv:sV (elt (dflt aR) (ah t ((k+1:Nat):Int)).2.2.2.2 (j:Nat)).1:=hpt (k+1) j;unfold sV at hpv;have hps:(ah t ((k+1:Nat):Int)).2.2.2.2.length≤1048576:=(hs.2 (k+1)).2;have hat:elt (dflt aR) (dQ ((xs.length:Nat)-1:Int) (ah t ((k+1:Nat):Int)).2.2.2.2 j) (j:Nat)=elt (dflt aR) (ah t ((k+1:Nat):Int)).2.2.2.2 (j:Nat):=tT hlt2;have hw:IntKind.i64.wrap ((elt (dflt aR) (ah t ((k+1:Nat):Int)).2.2.2.2 (j:Nat)).1+((xs.length:Nat)-1:Int))=(elt (dflt aR) (ah t ((k+1:Nat):Int)).2.2.2.2 (j:Nat)).1+((xs.length:Nat)-1:Int):=qO _ (by omega)
    have hbnd:0≤((j:Nat):Int)∧((j:Nat):Int)<((dQ ((xs.length:Nat)-1:Int) (ah t ((k+1:Nat):Int)).2.2.2.2 j).length:Nat):=by rw[iK];omega
    refine aI hbnd ?_;refine aI hbnd ?_;refine bB (j+1) hlt2 ?_ ?_
    ·refine hd [] rfl (aI (aI (eB (by omega)) rfl) trivial) ⟨trivial,⟨⟨rfl,rfl⟩,⟨rfl,rfl⟩,⟨rfl,rfl⟩,rfl,rfl,trivial⟩,trivial,⟨rfl,rfl,⟨rfl,rfl⟩,trivial⟩,⟨rfl,pR _⟩,⟨rfl,nP⟩,⟨rfl,nP⟩,⟨?_,nP⟩,trivial⟩;show(dQ ((xs.length:Nat)-1:Int) (ah t ((k+1:Nat):Int)).2.2.2.2 j).set j (IntKind.i64.wrap ((elt (dflt aR) (dQ ((xs.length:Nat)-1:Int) (ah t ((k+1:Nat):Int)).2.2.2.2 j) (j:Nat)).1+((xs.length:Nat)-1:Int)),(elt (dflt aR) (dQ ((xs.length:Nat)-1:Int) (ah t ((k+1:Nat):Int)).2.2.2.2 j) (j:Nat)).2)=dQ ((xs.length:Nat)-1:Int) (ah t ((k+1:Nat):Int)).2.2.2.2 (j+1)
     rw[qz hlt2,hat,hw]
    ·show(ah t ((k+1:Nat):Int)).2.2.2.2.length-(j+1)<(ah t ((k+1:Nat):Int)).2.2.2.2.length-j;omega
   have hje:j=(ah t ((k+1:Nat):Int)).2.2.2.2.length:=by
    have q4:decide (((j:Nat):Int)<((dQ ((xs.length:Nat)-1:Int) (ah t ((k+1:Nat):Int)).2.2.2.2 j).length:Nat))=false:=q3;rw[iK]at q4;have q5:(ah t ((k+1:Nat):Int)).2.2.2.2.length≤j:=by simpa using q4
    omega
   refine aI (by show(xs++jq lv ((xs.length:Nat)-1:Int) t k).length+1≤_;rw[qA,y8 (by omega)];have:=hs.1;omega) ?_;refine aI (by kernel_rfl) ?_;refine bB (k+1) (by show k+1+1≤t.length;omega) ?_ ?_
   ·refine hd [(20000,76)] rfl (aI (aI (eB (by have:=hs.1;omega)) rfl) (aI (aI rfl rfl) (aI (aI rfl rfl) trivial))) ⟨trivial,⟨rfl,rfl,⟨rfl,rfl⟩,trivial⟩,⟨?_,pR _⟩,⟨rfl,nP⟩,trivial⟩;show(xs++jq lv ((xs.length:Nat)-1:Int) t k)++[((ah t ((k+1:Nat):Int)).1,(ah t ((k+1:Nat):Int)).2.1,(ah t ((k+1:Nat):Int)).2.2.1,(ah t ((k+1:Nat):Int)).2.2.2.1,dQ ((xs.length:Nat)-1:Int) (ah t ((k+1:Nat):Int)).2.2.2.2 j)]=(xs++jq lv ((xs.length:Nat)-1:Int) t (k+1));rw[w9 hlt,hje,tQ,qF]
    congr 2
    unfold bW iU;rw[show bR (ah t ((k+1:Nat):Int)).kind=false from hlev];rfl
   ·show t.length-1-(k+1)<t.length-1-k;omega
 ·have hke:k=t.length-1:=by
   have q2:decide (((k+1:Nat):Int)<(t.length:Nat))=false:=q1;have q3:(t.length:Nat)≤((k+1:Nat):Int):=by simpa using q2
   omega
  subst hke;refine aI (show(0:Int)≤0∧(0:Int)<(t.length:Nat) by omega) ?_;refine aI (show(0:Int)≤0∧(0:Int)<((ah t 0).2.2.2.2.length:Nat) by omega) ?_;have hp0:sV (au t (0,0)).1:=hpt 0 0;unfold sV at hp0;have hw:IntKind.i64.wrap (((xs.length:Nat)-1:Int)+(au t (0,0)).1)=((xs.length:Nat)-1:Int)+(au t (0,0)).1:=qO _ (by omega);have hlk:=Fu (xs++jq lv ((xs.length:Nat)-1:Int) t (t.length-1)) us pk tr (((xs.length:Nat)-1:Int)+(au t (0,0)).1,(au t (0,0)).2) (y,0) htop hy.app;rw[←hw]at hlk
  refine Or.inl (eI _ (aI (bM _ _) ?_));refine Or.inl (eI _ (aI (bM y 0) ?_));refine Or.inr (eI _ (eI _ (aI hlk ?_)));refine fin [(10003,20000)] (aI rfl ?_);refine⟨trivial,⟨rfl,rfl,⟨rfl,rfl⟩,trivial⟩,⟨?_,pR _⟩,⟨rfl,nP⟩,trivial⟩;show bL (xs++jq lv ((xs.length:Nat)-1:Int) t (t.length-1)) (IntKind.i64.wrap (((xs.length:Nat)-1:Int)+(au t (0,0)).1),(au t (0,0)).2) (y,0)=eU t lv xs y;rw[hw];rfl
theorem uT:bK Tryz.prog 104=true:=by kernel_rfl
theorem Fe(bk:List (List aj))(xs:List aj)(a b:Int)(ha:0≤a∧a<(xs.length:Nat))(hb:0≤b∧b<(xs.length:Nat))(hs:∀i:Nat,dH (bP bk i))(hv:bF (ah xs (aC xs a b).1) (ah xs (aC xs a b).2)=7→0≤(ah xs (aC xs a b).1).2.2.1):
  aN Tryz.prog 104 [.rsl bO bk,.rp bO xs,.int .i64 a,.int .i64 b] (.tup [.int .i64 (gM bk (ah xs (aC xs a b).1) (ah xs (aC xs a b).2)).1,.int .i64 (gM bk (ah xs (aC xs a b).1) (ah xs (aC xs a b).2)).2]):=by
 obtain⟨h1,h2⟩:=Aa (xs:=xs) ha hb;refine aN.intro (nt:=92) aJ mixed uT Tryz.func104 rfl rfl rfl rfl rfl ?_;refine Or.inl (eI _ (aI (KF xs a b ha hb) ?_));refine aI h1 ?_;refine aI h2 ?_;refine Or.inl (eI _ (aI (Pw (ah xs (aC xs a b).1) (ah xs (aC xs a b).2)) ?_));refine aI (fun q1=> ?_) (fun q1=> ?_)
 ·have e:gM bk (ah xs (aC xs a b).1) (ah xs (aC xs a b).2)=(0,11):=by have b:((bF (ah xs (aC xs a b).1) (ah xs (aC xs a b).2))==8)=true:=q1;simp only[gM,b,qG]
  rw[e];exact rfl
 have b8:((bF (ah xs (aC xs a b).1) (ah xs (aC xs a b).2))==8)=false:=q1;have fin0:∀z:Int,((bF (ah xs (aC xs a b).1) (ah xs (aC xs a b).2))==7)=false→rE bk (bF (ah xs (aC xs a b).1) (ah xs (aC xs a b).2)) (ah xs (aC xs a b).1) (ah xs (aC xs a b).2)=z→gM bk (ah xs (aC xs a b).1) (ah xs (aC xs a b).2)=((dG (bF (ah xs (aC xs a b).1) (ah xs (aC xs a b).2)) z).1,0):=fun z h e=>by simp only[gM,b8,h,qH,e]
 refine aI (fun q2=> ?_) (fun q2=> ?_)
 ·refine aI (fun _=> ?_) (fun h=>by rw[show((bF (ah xs (aC xs a b).1) (ah xs (aC xs a b).2))==3)=true from q2]at h;cases h);refine Or.inl (eI _ (aI (zf _ _) ?_));have b3:((bF (ah xs (aC xs a b).1) (ah xs (aC xs a b).2))==3)=true:=q2;have c3:(bF (ah xs (aC xs a b).1) (ah xs (aC xs a b).2))=3:=by simpa using b3
  have e:=fin0 (IntKind.i64.wrap (((ah xs (aC xs a b).2).2.2.2.2.length:Nat)-1)) (by rw[c3];rfl) (by simp only[rE,b3,qG]);rw[e];exact rfl
 have b3:((bF (ah xs (aC xs a b).1) (ah xs (aC xs a b).2))==3)=false:=q2;refine aI (fun q3=> ?_) (fun q3=> ?_)
 ·refine Or.inl (eI _ (aI (zf _ _) ?_));have b4:((bF (ah xs (aC xs a b).1) (ah xs (aC xs a b).2))==4)=true:=q3;have c4:(bF (ah xs (aC xs a b).1) (ah xs (aC xs a b).2))=4:=by simpa using b4
  have e:=fin0 (IntKind.i64.wrap (((ah xs (aC xs a b).2).2.2.2.2.length:Nat)-1)) (by rw[c4];rfl) (by simp only[rE,b3,b4,qG,qH]);rw[e];exact rfl
 have b4:((bF (ah xs (aC xs a b).1) (ah xs (aC xs a b).2))==4)=false:=q3;refine aI (fun q4=> ?_) (fun q4=> ?_)
 ·refine Or.inl (eI _ (aI (Mw _) ?_));refine Or.inl (eI _ (aI (zf _ _) ?_));have b6:((bF (ah xs (aC xs a b).1) (ah xs (aC xs a b).2))==6)=true:=q4;have c6:(bF (ah xs (aC xs a b).1) (ah xs (aC xs a b).2))=6:=by simpa using b6
  have e:=fin0 (mG (ah xs (aC xs a b).1)) (by rw[c6];rfl) (by simp only[rE,b3,b4,b6,qG,qH]);rw[e];exact rfl
 have b6:((bF (ah xs (aC xs a b).1) (ah xs (aC xs a b).2))==6)=false:=q4;refine aI (fun q5=> ?_) (fun q5=> ?_)
 ·have b7:((bF (ah xs (aC xs a b).1) (ah xs (aC xs a b).2))==7)=true:=q5;have c7:(bF (ah xs (aC xs a b).1) (ah xs (aC xs a b).2))=7:=by simpa using b7
  have v0:=hv c7;have ek:bP bk (ah xs (aC xs a b).1).2.2.1=bP bk ((ah xs (aC xs a b).1).2.2.1.toNat:Nat):=by unfold bP;exact Mk (by omega)
  have hsm:(bP bk (ah xs (aC xs a b).1).2.2.1).length≤2000000:=by rw[ek];have:=(hs (ah xs (aC xs a b).1).2.2.1.toNat).1;omega
  refine aI (fun q6=> ?_) (fun q6=> ?_)
  ·have q7:decide ((bk.length:Int)≤(ah xs (aC xs a b).1).2.2.1)=true:=q6;have e:gM bk (ah xs (aC xs a b).1) (ah xs (aC xs a b).2)=(0,3):=by simp only[gM,b8,b7,q7,qG,qH]
   rw[e];exact rfl
  have q7:decide ((bk.length:Int)≤(ah xs (aC xs a b).1).2.2.1)=false:=q6;have hlt:(ah xs (aC xs a b).1).2.2.1<(bk.length:Nat):=by simpa using q7
  refine aI ⟨v0,hlt⟩ ?_;refine aI ⟨v0,hlt⟩ ?_;refine Or.inl (eI _ (aI (Xx (bP bk (ah xs (aC xs a b).1).2.2.1) hsm) ?_));refine aI (by kernel_rfl) ?_;refine aI (fun q8=> ?_) (fun q8=> ?_)
  ·have q9:decide (8<IntKind.i64.wrap (lu (bP bk (ah xs (aC xs a b).1).2.2.1) (bP bk (ah xs (aC xs a b).1).2.2.1).length+(ah xs (aC xs a b).1).2.1))=true:=q8;have e:gM bk (ah xs (aC xs a b).1) (ah xs (aC xs a b).2)=(0,9):=by simp only[gM,b8,b7,q7,q9,qG,qH]
   rw[e];exact rfl
  have q9:decide (8<IntKind.i64.wrap (lu (bP bk (ah xs (aC xs a b).1).2.2.1) (bP bk (ah xs (aC xs a b).1).2.2.1).length+(ah xs (aC xs a b).1).2.1))=false:=q8;refine Or.inl (eI _ (aI (zf _ _) ?_))
  have e:gM bk (ah xs (aC xs a b).1) (ah xs (aC xs a b).2)=((dG 7 ((bP bk (ah xs (aC xs a b).1).2.2.1).length:Nat)).1,0):=by
   have e7:rE bk 7 (ah xs (aC xs a b).1) (ah xs (aC xs a b).2)=((bP bk (ah xs (aC xs a b).1).2.2.1).length:Nat):=rfl;simp only[gM,b8,b7,q7,q9,qG,qH,e7]
  rw[e,←c7];exact rfl
 have b7:((bF (ah xs (aC xs a b).1) (ah xs (aC xs a b).2))==7)=false:=q5;refine Or.inl (eI _ (aI (zf _ _) ?_));have e:=fin0 0 b7 (by simp only[rE,b3,b4,b6,b7,qH]);rw[e];exact rfl
theorem Jw:bK Tryz.prog 58=true:=by kernel_rfl
section
variable (bk:List (List aj))(xs:List aj)(us:List Value)(a b:Int)(ha:0≤a∧a<(xs.length:Nat))(hb:0≤b∧b<(xs.length:Nat))(hs:∀i:Nat,dH (bP bk i))(hlx:xs.length≤800000)(hv:bF (ah xs (aC xs a b).1) (ah xs (aC xs a b).2)=7→0≤(ah xs (aC xs a b).1).2.2.1)
include ha hb hs hlx hv
theorem Vt{g e:Int}(hge:gM bk (ah xs (aC xs a b).1) (ah xs (aC xs a b).2)=(g,e))(he:e≠0):aA Tryz.prog 58 [.rsl bO bk,.ptr 10000 0,.int .i64 a,.int .i64 b] (tA xs us) (.int .i64 e) (tA xs us):=by
 have hg:=Fe bk xs a b ha hb hs hv;rw[hge]at hg;refine aA.intro (nt:=134) aJ mixed Jw Tryz.func58 rfl rfl rfl rfl rfl rfl ?_;refine Or.inr (eI _ (eI _ (aI (aA.o9 aJ [0,51,0,0] uT hg rfl) ?_)));refine aI (fun q1=> ?_) (fun q1=> ?_)
 ·refine fin [] (aI ⟨rfl,rfl⟩ ?_);exact⟨trivial,⟨rfl,trivial⟩,⟨rfl,pR _⟩,trivial⟩
 ·have q2:(e !=0)=false:=q1;simp at q2;exact absurd q2 he
theorem Tc{g:Int}(hge:gM bk (ah xs (aC xs a b).1) (ah xs (aC xs a b).2)=(g,0))(hf:600<IntKind.i64.wrap ((dh xs xs.length:Nat)+g)):aA Tryz.prog 58 [.rsl bO bk,.ptr 10000 0,.int .i64 a,.int .i64 b] (tA xs us) (.int .i64 4) (tA xs us):=by
 have hg:=Fe bk xs a b ha hb hs hv;rw[hge]at hg;refine aA.intro (nt:=134) aJ mixed Jw Tryz.func58 rfl rfl rfl rfl rfl rfl ?_;refine Or.inr (eI _ (eI _ (aI (aA.o9 aJ [0,51,0,0] uT hg rfl) ?_)));refine aI (fun q1=>by cases q1) (fun q1=> ?_);refine Or.inr (eI _ (eI _ (aI (aA.o9 aJ [51] Dh (MN xs (by omega)) rfl) ?_)));refine aI (fun q2=> ?_) (fun q2=> ?_)
 ·refine fin [] (aI ⟨rfl,rfl⟩ ?_);exact⟨trivial,⟨rfl,trivial⟩,⟨rfl,pR _⟩,trivial⟩
 ·have q3:decide (600<IntKind.i64.wrap ((dh xs xs.length:Nat)+g))=false:=q2;simp only[qP]at q3;exact absurd hf q3
theorem Xq{c x y g:Int}(hf:aC xs a b=(x,y))(hc:bF (ah xs x) (ah xs y)=c)(hge:gM bk (ah xs x) (ah xs y)=(g,0))(hc7:1≤c∧c≤7)(hp:F9 xs c x y)(hA:bf xs)(h0:ak xs (0,0))(h7:c=7→0≤(ah xs x).2.2.1∧(ah xs x).2.2.1<(bk.length:Nat))(hn:¬600<IntKind.i64.wrap ((dh xs xs.length:Nat)+g))
  (hE:c=7→∀us,aA Tryz.prog 112 [.rp bO (bP bk (ah xs x).2.2.1),.ptr 10000 0,.int .i64 x,.int .i64 y] (tA xs us) (.tup []) (J3 10002 (eU (bP bk (ah xs x).2.2.1) (ah xs x).2.1 xs y) us)):
  aA Tryz.prog 58 [.rsl bO bk,.ptr 10000 0,.int .i64 a,.int .i64 b] (tA xs us) (.int .i64 0) (J3 10002 (fT bk xs c x y) []):=by
 have hg:=Fe bk xs a b ha hb hs hv;have hfst:=KF xs a b ha hb;rw[hf]at hg hfst;rw[show(x,y).1=x from rfl,show(x,y).2=y from rfl,hge]at hg;rw[show(x,y).1=x from rfl,show(x,y).2=y from rfl]at hfst;obtain⟨⟨hx0,hy0,p12,p3,px,py,dy,p5,p6⟩,k5,k6⟩:=hp;refine aA.jy 10001 Jw ?_;refine aI (fun _ us' hpre hlen=> ?_) (fun h=>absurd rfl h)
 skip
 refine aA.intro (nt:=134) aJ mixed Jw Tryz.func58 rfl rfl rfl rfl rfl rfl ?_;refine Or.inr (eI _ (eI _ (aI (aA.o9 aJ [0,51,0,0] uT hg rfl) ?_)));refine aI (fun q1=>by cases q1) (fun q1=> ?_);refine Or.inr (eI _ (eI _ (aI (aA.o9 aJ [51] Dh (MN xs (by omega)) rfl) ?_)));refine aI (fun q2=> ?_) (fun q2=> ?_)
 ·have q3:decide (600<IntKind.i64.wrap ((dh xs xs.length:Nat)+g))=true:=q2;simp only[qQ]at q3;exact absurd q3 hn
 refine Or.inr (eI _ (eI _ (aI (aA.o9 aJ [51,0,0] Df hfst rfl) ?_)));refine aI hx0 ?_;refine aI hy0 ?_;have hce:=Gn xs us' x y;rw[hc]at hce;refine Or.inr (eI _ (eI _ (aI hce ?_)));refine aI (by kernel_rfl) ?_;refine aI (fun b1=> ?_) (fun b1=> ?_)
 ·have c1:c=1:=by have b:(c==1)=true:=b1;simpa using b
  have n7:(c==7)=false:=by rw[c1];rfl
  refine aI (fun _=> ?_) (fun h=>by rw[show(c==1)=true from b1]at h;cases h);obtain⟨j1,j2,j3,j4⟩:=p12 (.inl c1);refine Or.inl (eI _ (aI (bM _ _) ?_));refine Or.inl (eI _ (aI (bM _ _) ?_));refine Or.inr (eI _ (eI _ (aI (MJ xs us' (x,1) (y,1) j1 j3 (hA _ j1) (hA _ j3)) ?_)));have hA1:=hA.join j1 j3;refine Or.inl (eI _ (aI (bM _ _) ?_));refine Or.inl (eI _ (aI (bM _ _) ?_));refine Or.inr (eI _ (eI _ (aI (MJ (aV xs (x,1) (y,1)) us' (x,2) (y,2) j2.join j4.join (hA1 _ j2.join) (hA1 _ j4.join)) ?_)));have hll:xs.length≤(aV (aV xs (x,1) (y,1)) (x,2) (y,2)).length:=by rw[lU,lU];exact Nat.le_refl _
  have hlx2:0≤x∧x<((aV (aV xs (x,1) (y,1)) (x,2) (y,2)).length:Nat):=by omega
  have hly:0≤y∧y<((aV (aV xs (x,1) (y,1)) (x,2) (y,2)).length:Nat):=by omega
  refine Or.inr (eI _ (eI _ (aI (kI (aV (aV xs (x,1) (y,1)) (x,2) (y,2)) us' x hlx2) ?_)));refine aI (fun _=> ?_) (fun q7=>by have q8:(c !=7)=false:=q7;rw[c1]at q8;cases q8);refine Or.inr (eI _ (eI _ (aI (kI (bC (aV (aV xs (x,1) (y,1)) (x,2) (y,2)) x) [] y (by rw[eO];exact hly)) ?_)));refine fin [(10002,10001)] (aI ⟨rfl,rfl⟩ ?_);refine⟨trivial,⟨rfl,trivial⟩,⟨?_,nP⟩,trivial⟩;show bC (bC (aV (aV xs (x,1) (y,1)) (x,2) (y,2)) x) y=fT bk xs c x y;simp only[fT,iq,b1,n7,qG,qH]
 refine aI (fun b2=> ?_) (fun b2=> ?_)
 ·have c2:c=2:=by have b:(c==2)=true:=b2;simpa using b
  have n7:(c==7)=false:=by rw[c2];rfl
  obtain⟨j1,j2,j3,j4⟩:=p12 (.inr c2);refine Or.inl (eI _ (aI (bM _ _) ?_));refine Or.inl (eI _ (aI (bM _ _) ?_));refine Or.inr (eI _ (eI _ (aI (MJ xs us' (x,1) (y,1) j1 j3 (hA _ j1) (hA _ j3)) ?_)));have hA1:=hA.join j1 j3;refine Or.inl (eI _ (aI (bM _ _) ?_));refine Or.inl (eI _ (aI (bM _ _) ?_));refine Or.inr (eI _ (eI _ (aI (MJ (aV xs (x,1) (y,1)) us' (x,2) (y,2) j2.join j4.join (hA1 _ j2.join) (hA1 _ j4.join)) ?_)));have hll:xs.length≤(aV (aV xs (x,1) (y,1)) (x,2) (y,2)).length:=by rw[lU,lU];exact Nat.le_refl _
  have hlx2:0≤x∧x<((aV (aV xs (x,1) (y,1)) (x,2) (y,2)).length:Nat):=by omega
  have hly:0≤y∧y<((aV (aV xs (x,1) (y,1)) (x,2) (y,2)).length:Nat):=by omega
  refine Or.inr (eI _ (eI _ (aI (kI (aV (aV xs (x,1) (y,1)) (x,2) (y,2)) us' x hlx2) ?_)));refine aI (fun _=> ?_) (fun q7=>by have q8:(c !=7)=false:=q7;rw[c2]at q8;cases q8);refine Or.inr (eI _ (eI _ (aI (kI (bC (aV (aV xs (x,1) (y,1)) (x,2) (y,2)) x) [] y (by rw[eO];exact hly)) ?_)));refine fin [(10002,10001)] (aI ⟨rfl,rfl⟩ ?_);refine⟨trivial,⟨rfl,trivial⟩,⟨?_,nP⟩,trivial⟩;show bC (bC (aV (aV xs (x,1) (y,1)) (x,2) (y,2)) x) y=fT bk xs c x y;simp only[fT,iq,b1,b2,n7,qG,qH]
 refine aI (fun b3=> ?_) (fun b3=> ?_)
 ·have c3:c=3:=by have b:(c==3)=true:=b3;simpa using b
  have n7:(c==7)=false:=by rw[c3];rfl
  obtain⟨j1,j2⟩:=p3 c3;refine Or.inr (eI _ (eI _ (aI (Zh xs us' x y hA h0 (by omega) j1 j2 hy0 py.2 dy py.1) ?_)));have hll:xs.length≤(bH xs x y).length:=by exact xK xs x y
  have hlx2:0≤x∧x<((bH xs x y).length:Nat):=by omega
  have hly:0≤y∧y<((bH xs x y).length:Nat):=by omega
  refine Or.inr (eI _ (eI _ (aI (kI (bH xs x y) us' x hlx2) ?_)));refine aI (fun _=> ?_) (fun q7=>by have q8:(c !=7)=false:=q7;rw[c3]at q8;cases q8);refine Or.inr (eI _ (eI _ (aI (kI (bC (bH xs x y) x) [] y (by rw[eO];exact hly)) ?_)));refine fin [(10002,72)] (aI ⟨rfl,rfl⟩ ?_);refine⟨trivial,⟨rfl,trivial⟩,⟨?_,nP⟩,trivial⟩;show bC (bC (bH xs x y) x) y=fT bk xs c x y;simp only[fT,iq,b1,b2,b3,n7,qG,qH]
 refine aI (fun b4=> ?_) (fun b4=> ?_)
 ·have c4:c=4:=by have b:(c==4)=true:=b4;simpa using b
  have n7:(c==7)=false:=by rw[c4];rfl
  have hyk:∀i:Nat,i<((ah xs y).2.2.2.2.length-1)→ak xs (y,((i+1:Nat):Int)):=fun i hi=>⟨hy0.1,hy0.2,by omega,by show((i+1:Nat):Int)<((ah xs y).2.2.2.2.length:Nat);omega⟩
  refine aI hy0 ?_;refine aI (sJ hlen hy0.1 hy0.2) ?_;refine lp Nat (fun k=>[(13,.int .i64 ((k+1:Nat):Int)),(12,.int .i64 ((ah xs y).2.2.2.2.length:Nat))]) (fun k=>[.dD 10000 30 [.sl 20000],.row 20000 111 5 aG (rV y xs k) us']) (fun k=>((ah xs y).2.2.2.2.length-1)-k) (fun k=>k≤((ah xs y).2.2.2.2.length-1)) 0 (Nat.zero_le _) ?_ ?_
  ·exact hd [(20000,10001)] rfl (aI (aI rfl rfl) (aI (aI rfl rfl) trivial)) ⟨trivial,⟨rfl,trivial⟩,⟨rfl,pR _⟩,trivial⟩
  intro k hk;refine aI (fun q4=> ?_) (fun q4=> ?_)
  ·have hlt:k<((ah xs y).2.2.2.2.length-1):=by
    have q5:decide (((k+1:Nat):Int)<((ah xs y).2.2.2.2.length:Nat))=true:=q4;have q6:((k+1:Nat):Int)<((ah xs y).2.2.2.2.length:Nat):=by simpa using q5
    omega
   have hadd:=uF (rV y xs k) us' 5 0 0 1 (by rw[jQ];omega) (by omega);rw[jQ]at hadd;refine Or.inr (eI _ (eI _ (aI hadd ?_)));refine Or.inl (eI _ (aI (bM _ _) ?_));refine Or.inl (eI _ (aI (bM _ _) ?_));refine Or.inr (eI _ (eI _ (aI (moveA (rV y xs k++[bg 5 0 0 [] 1]) us' (y,((k+1:Nat):Int)) (((xs.length+k:Nat):Int),0) ((wZ hA h0 k fun i hi=>hyk i (by omega)).add (oh h0 k) _ _ _ _ _) (oh (hyk k hlt) k).app (yZ k)) ?_)));refine bB (k+1) (by omega) ?_ ?_
   ·exact hd [(20000,90)] rfl (aI (aI (eB (by omega)) rfl) (aI (aI rfl rfl) trivial)) ⟨trivial,⟨rfl,trivial⟩,⟨rfl,pR _⟩,trivial⟩
   ·show((ah xs y).2.2.2.2.length-1)-(k+1)<((ah xs y).2.2.2.2.length-1)-k;omega
  have hge2:((ah xs y).2.2.2.2.length-1)≤k:=by
   have q5:decide (((k+1:Nat):Int)<((ah xs y).2.2.2.2.length:Nat))=false:=q4;have q6:((ah xs y).2.2.2.2.length:Nat)≤((k+1:Nat):Int):=by simpa using q5
   omega
  have hke:k=((ah xs y).2.2.2.2.length-1):=by omega
  subst hke;have hll:xs.length≤(ig xs y).length:=by unfold ig;rw[jQ];omega
  have hlx2:0≤x∧x<((ig xs y).length:Nat):=by omega
  have hly:0≤y∧y<((ig xs y).length:Nat):=by omega
  refine Or.inr (eI _ (eI _ (aI (kI (ig xs y) us' x hlx2) ?_)));refine aI (fun _=> ?_) (fun q7=>by have q8:(c !=7)=false:=q7;rw[c4]at q8;cases q8);refine Or.inr (eI _ (eI _ (aI (kI (bC (ig xs y) x) [] y (by rw[eO];exact hly)) ?_)));refine fin [(10002,20000)] (aI ⟨rfl,rfl⟩ ?_);refine⟨trivial,⟨rfl,trivial⟩,⟨?_,nP⟩,trivial⟩;show bC (bC (ig xs y) x) y=fT bk xs c x y;simp only[fT,iq,b1,b2,b3,b4,n7,qG,qH]
 refine aI (fun b5=> ?_) (fun b5=> ?_)
 ·have c5:c=5:=by have b:(c==5)=true:=b5;simpa using b
  have n7:(c==7)=false:=by rw[c5];rfl
  obtain⟨j1,j2,j3⟩:=p5 c5;refine Or.inr (eI _ (eI _ (aI (XG xs us' x y hA h0 (by omega) hx0 j1 (k5 c5) j2 j3 dy py.2) ?_)));have hll:xs.length≤(bG xs x y).length:=by exact Bd xs x y
  have hlx2:0≤x∧x<((bG xs x y).length:Nat):=by omega
  have hly:0≤y∧y<((bG xs x y).length:Nat):=by omega
  refine Or.inr (eI _ (eI _ (aI (kI (bG xs x y) us' x hlx2) ?_)));refine aI (fun _=> ?_) (fun q7=>by have q8:(c !=7)=false:=q7;rw[c5]at q8;cases q8);refine Or.inr (eI _ (eI _ (aI (kI (bC (bG xs x y) x) [] y (by rw[eO];exact hly)) ?_)));refine fin [(10002,103)] (aI ⟨rfl,rfl⟩ ?_);refine⟨trivial,⟨rfl,trivial⟩,⟨?_,nP⟩,trivial⟩;show bC (bC (bG xs x y) x) y=fT bk xs c x y;simp only[fT,iq,b1,b2,b3,b4,b5,n7,qG,qH]
 refine aI (fun b6=> ?_) (fun b6=> ?_)
 ·have c6:c=6:=by have b:(c==6)=true:=b6;simpa using b
  have n7:(c==7)=false:=by rw[c6];rfl
  obtain⟨j1,j2,j3⟩:=p6 c6;refine Or.inr (eI _ (eI _ (aI (SI xs us' x y hA h0 (by omega) hx0 j1 (k6 c6).1 (k6 c6).2 px.2 px.1 dy py.2) ?_)));have hll:xs.length≤(dx xs x y).length:=by exact Cb xs x y
  have hlx2:0≤x∧x<((dx xs x y).length:Nat):=by omega
  have hly:0≤y∧y<((dx xs x y).length:Nat):=by omega
  refine Or.inr (eI _ (eI _ (aI (kI (dx xs x y) us' x hlx2) ?_)));refine aI (fun _=> ?_) (fun q7=>by have q8:(c !=7)=false:=q7;rw[c6]at q8;cases q8);refine Or.inr (eI _ (eI _ (aI (kI (bC (dx xs x y) x) [] y (by rw[eO];exact hly)) ?_)));refine fin [(10002,109)] (aI ⟨rfl,rfl⟩ ?_);refine⟨trivial,⟨rfl,trivial⟩,⟨?_,nP⟩,trivial⟩;show bC (bC (dx xs x y) x) y=fT bk xs c x y;simp only[fT,iq,b1,b2,b3,b4,b5,b6,n7,qG,qH]
 refine aI (fun b7=> ?_) (fun b7=> ?_)
 ·have c7:c=7:=by have b:(c==7)=true:=b7;simpa using b
  have n7:(c==7)=true:=b7;refine aI hx0 ?_;refine aI (h7 c7) ?_;refine Or.inr (eI _ (eI _ (aI (hE c7 us') ?_)));have hll:xs.length≤(eU (bP bk (ah xs x).2.2.1) (ah xs x).2.1 xs y).length:=by unfold eU;rw[jf,qA];omega
  have hlx2:0≤x∧x<((eU (bP bk (ah xs x).2.2.1) (ah xs x).2.1 xs y).length:Nat):=by omega
  have hly:0≤y∧y<((eU (bP bk (ah xs x).2.2.1) (ah xs x).2.1 xs y).length:Nat):=by omega
  refine Or.inr (eI _ (eI _ (aI (kI (eU (bP bk (ah xs x).2.2.1) (ah xs x).2.1 xs y) us' x hlx2) ?_)));refine aI (fun q7=>by have q8:(c !=7)=true:=q7;rw[c7]at q8;cases q8) (fun _=> ?_);refine fin [(10002,125)] (aI ⟨rfl,rfl⟩ ?_);refine⟨trivial,⟨rfl,trivial⟩,⟨?_,nP⟩,trivial⟩;show bC (eU (bP bk (ah xs x).2.2.1) (ah xs x).2.1 xs y) x=fT bk xs c x y;simp only[fT,iq,b1,b2,b3,b4,b5,b6,b7,n7,qG,qH]
 ·exfalso;simp at b1 b2 b3 b4 b5 b6 b7;omega
end
section
variable (bk:List (List aj))(xs:List aj)(us:List Value)(pk:Int)(tr:List Int)(a b:Int)(ha:0≤a∧a<(xs.length:Nat))(hb:0≤b∧b<(xs.length:Nat))(hs:∀i:Nat,dH (bP bk i))(hlx:xs.length≤800000)(hv:bF (ah xs (aC xs a b).1) (ah xs (aC xs a b).2)=7→0≤(ah xs (aC xs a b).1).2.2.1)
include ha hb hs hlx hv
theorem Ze{g e:Int}(hge:gM bk (ah xs (aC xs a b).1) (ah xs (aC xs a b).2)=(g,e))(he:e≠0):aA Tryz.prog 58 [.rsl bO bk,.ptr 10000 0,.int .i64 a,.int .i64 b] (tB xs us pk tr) (.int .i64 e) (tB xs us pk tr):=by
 have hg:=Fe bk xs a b ha hb hs hv;rw[hge]at hg;refine aA.intro (nt:=134) aJ mixed Jw Tryz.func58 rfl rfl rfl rfl rfl rfl ?_;refine Or.inr (eI _ (eI _ (aI (aA.o9 aJ [0,51,0,0] uT hg rfl) ?_)));refine aI (fun q1=> ?_) (fun q1=> ?_)
 ·refine fin [] (aI ⟨rfl,rfl⟩ ?_);exact⟨trivial,⟨rfl,rfl,⟨rfl,rfl⟩,trivial⟩,⟨rfl,pR _⟩,⟨rfl,nP⟩,trivial⟩
 ·have q2:(e !=0)=false:=q1;simp at q2;exact absurd q2 he
theorem Yn{g:Int}(hge:gM bk (ah xs (aC xs a b).1) (ah xs (aC xs a b).2)=(g,0))(hf:600<IntKind.i64.wrap ((dh xs xs.length:Nat)+g)):aA Tryz.prog 58 [.rsl bO bk,.ptr 10000 0,.int .i64 a,.int .i64 b] (tB xs us pk tr) (.int .i64 4) (tB xs us pk tr):=by
 have hg:=Fe bk xs a b ha hb hs hv;rw[hge]at hg;refine aA.intro (nt:=134) aJ mixed Jw Tryz.func58 rfl rfl rfl rfl rfl rfl ?_;refine Or.inr (eI _ (eI _ (aI (aA.o9 aJ [0,51,0,0] uT hg rfl) ?_)));refine aI (fun q1=>by cases q1) (fun q1=> ?_);refine Or.inr (eI _ (eI _ (aI (aA.o9 aJ [51] Dh (MN xs (by omega)) rfl) ?_)));refine aI (fun q2=> ?_) (fun q2=> ?_)
 ·refine fin [] (aI ⟨rfl,rfl⟩ ?_);exact⟨trivial,⟨rfl,rfl,⟨rfl,rfl⟩,trivial⟩,⟨rfl,pR _⟩,⟨rfl,nP⟩,trivial⟩
 ·have q3:decide (600<IntKind.i64.wrap ((dh xs xs.length:Nat)+g))=false:=q2;simp only[qP]at q3;exact absurd hf q3
theorem ZO{c x y g:Int}(hf:aC xs a b=(x,y))(hc:bF (ah xs x) (ah xs y)=c)(hge:gM bk (ah xs x) (ah xs y)=(g,0))(hc7:1≤c∧c≤7)(hp:F9 xs c x y)(hA:bf xs)(h0:ak xs (0,0))(h7:c=7→0≤(ah xs x).2.2.1∧(ah xs x).2.2.1<(bk.length:Nat))(hn:¬600<IntKind.i64.wrap ((dh xs xs.length:Nat)+g))
  (hE:c=7→∀us,aA Tryz.prog 112 [.rp bO (bP bk (ah xs x).2.2.1),.ptr 10000 0,.int .i64 x,.int .i64 y] (tB xs us pk tr) (.tup []) (U5 10003 (eU (bP bk (ah xs x).2.2.1) (ah xs x).2.1 xs y) us pk tr)):
  aA Tryz.prog 58 [.rsl bO bk,.ptr 10000 0,.int .i64 a,.int .i64 b] (tB xs us pk tr) (.int .i64 0) (U5 10003 (fT bk xs c x y) [] pk tr):=by
 have hg:=Fe bk xs a b ha hb hs hv;have hfst:=KF xs a b ha hb;rw[hf]at hg hfst;rw[show(x,y).1=x from rfl,show(x,y).2=y from rfl,hge]at hg;rw[show(x,y).1=x from rfl,show(x,y).2=y from rfl]at hfst;obtain⟨⟨hx0,hy0,p12,p3,px,py,dy,p5,p6⟩,k5,k6⟩:=hp;refine aA.jy 10001 Jw ?_;refine aI (fun _ us' hpre hlen=> ?_) (fun h=>absurd rfl h);refine aI (fun h=>absurd h (by decide)) (fun _=> ?_);refine aA.intro (nt:=134) aJ mixed Jw Tryz.func58 rfl rfl rfl rfl rfl rfl ?_;refine Or.inr (eI _ (eI _ (aI (aA.o9 aJ [0,51,0,0] uT hg rfl) ?_)))
 refine aI (fun q1=>by cases q1) (fun q1=> ?_);refine Or.inr (eI _ (eI _ (aI (aA.o9 aJ [51] Dh (MN xs (by omega)) rfl) ?_)));refine aI (fun q2=> ?_) (fun q2=> ?_)
 ·have q3:decide (600<IntKind.i64.wrap ((dh xs xs.length:Nat)+g))=true:=q2;simp only[qQ]at q3;exact absurd q3 hn
 refine Or.inr (eI _ (eI _ (aI (aA.o9 aJ [51,0,0] Df hfst rfl) ?_)));refine aI hx0 ?_;refine aI hy0 ?_;have hce:=Gn xs us' x y;rw[hc]at hce;refine Or.inr (eI _ (eI _ (aI hce ?_)));refine aI (by kernel_rfl) ?_;refine aI (fun b1=> ?_) (fun b1=> ?_)
 ·have c1:c=1:=by have b:(c==1)=true:=b1;simpa using b
  have n7:(c==7)=false:=by rw[c1];rfl
  refine aI (fun _=> ?_) (fun h=>by rw[show(c==1)=true from b1]at h;cases h);obtain⟨j1,j2,j3,j4⟩:=p12 (.inl c1);refine Or.inl (eI _ (aI (bM _ _) ?_));refine Or.inl (eI _ (aI (bM _ _) ?_));refine Or.inr (eI _ (eI _ (aI (MK xs us' pk tr (x,1) (y,1) j1 j3 (hA _ j1) (hA _ j3)) ?_)));have hA1:=hA.join j1 j3;refine Or.inl (eI _ (aI (bM _ _) ?_));refine Or.inl (eI _ (aI (bM _ _) ?_));refine Or.inr (eI _ (eI _ (aI (MK (aV xs (x,1) (y,1)) us' pk tr (x,2) (y,2) j2.join j4.join (hA1 _ j2.join) (hA1 _ j4.join)) ?_)));have hll:xs.length≤(aV (aV xs (x,1) (y,1)) (x,2) (y,2)).length:=by rw[lU,lU];exact Nat.le_refl _
  have hlx2:0≤x∧x<((aV (aV xs (x,1) (y,1)) (x,2) (y,2)).length:Nat):=by omega
  have hly:0≤y∧y<((aV (aV xs (x,1) (y,1)) (x,2) (y,2)).length:Nat):=by omega
  refine Or.inr (eI _ (eI _ (aI (kJ (aV (aV xs (x,1) (y,1)) (x,2) (y,2)) us' pk tr x hlx2) ?_)));refine aI (fun _=> ?_) (fun q7=>by have q8:(c !=7)=false:=q7;rw[c1]at q8;cases q8);refine Or.inr (eI _ (eI _ (aI (kJ (bC (aV (aV xs (x,1) (y,1)) (x,2) (y,2)) x) [] pk tr y (by rw[eO];exact hly)) ?_)));refine fin [(10003,10001)] (aI ⟨rfl,rfl⟩ ?_);refine⟨trivial,⟨rfl,rfl,⟨rfl,rfl⟩,trivial⟩,⟨?_,nP⟩,⟨rfl,nP⟩,trivial⟩;show bC (bC (aV (aV xs (x,1) (y,1)) (x,2) (y,2)) x) y=fT bk xs c x y;simp only[fT,iq,b1,n7,qG,qH]
 refine aI (fun b2=> ?_) (fun b2=> ?_)
 ·have c2:c=2:=by have b:(c==2)=true:=b2;simpa using b
  have n7:(c==7)=false:=by rw[c2];rfl
  obtain⟨j1,j2,j3,j4⟩:=p12 (.inr c2);refine Or.inl (eI _ (aI (bM _ _) ?_));refine Or.inl (eI _ (aI (bM _ _) ?_));refine Or.inr (eI _ (eI _ (aI (MK xs us' pk tr (x,1) (y,1) j1 j3 (hA _ j1) (hA _ j3)) ?_)));have hA1:=hA.join j1 j3;refine Or.inl (eI _ (aI (bM _ _) ?_));refine Or.inl (eI _ (aI (bM _ _) ?_));refine Or.inr (eI _ (eI _ (aI (MK (aV xs (x,1) (y,1)) us' pk tr (x,2) (y,2) j2.join j4.join (hA1 _ j2.join) (hA1 _ j4.join)) ?_)));have hll:xs.length≤(aV (aV xs (x,1) (y,1)) (x,2) (y,2)).length:=by rw[lU,lU];exact Nat.le_refl _
  have hlx2:0≤x∧x<((aV (aV xs (x,1) (y,1)) (x,2) (y,2)).length:Nat):=by omega
  have hly:0≤y∧y<((aV (aV xs (x,1) (y,1)) (x,2) (y,2)).length:Nat):=by omega
  refine Or.inr (eI _ (eI _ (aI (kJ (aV (aV xs (x,1) (y,1)) (x,2) (y,2)) us' pk tr x hlx2) ?_)));refine aI (fun _=> ?_) (fun q7=>by have q8:(c !=7)=false:=q7;rw[c2]at q8;cases q8);refine Or.inr (eI _ (eI _ (aI (kJ (bC (aV (aV xs (x,1) (y,1)) (x,2) (y,2)) x) [] pk tr y (by rw[eO];exact hly)) ?_)));refine fin [(10003,10001)] (aI ⟨rfl,rfl⟩ ?_);refine⟨trivial,⟨rfl,rfl,⟨rfl,rfl⟩,trivial⟩,⟨?_,nP⟩,⟨rfl,nP⟩,trivial⟩;show bC (bC (aV (aV xs (x,1) (y,1)) (x,2) (y,2)) x) y=fT bk xs c x y;simp only[fT,iq,b1,b2,n7,qG,qH]
 refine aI (fun b3=> ?_) (fun b3=> ?_)
 ·have c3:c=3:=by have b:(c==3)=true:=b3;simpa using b
  have n7:(c==7)=false:=by rw[c3];rfl
  obtain⟨j1,j2⟩:=p3 c3;refine Or.inr (eI _ (eI _ (aI (Xr xs us' pk tr x y hA h0 (by omega) j1 j2 hy0 py.2 dy py.1) ?_)));have hll:xs.length≤(bH xs x y).length:=by exact xK xs x y
  have hlx2:0≤x∧x<((bH xs x y).length:Nat):=by omega
  have hly:0≤y∧y<((bH xs x y).length:Nat):=by omega
  refine Or.inr (eI _ (eI _ (aI (kJ (bH xs x y) us' pk tr x hlx2) ?_)));refine aI (fun _=> ?_) (fun q7=>by have q8:(c !=7)=false:=q7;rw[c3]at q8;cases q8);refine Or.inr (eI _ (eI _ (aI (kJ (bC (bH xs x y) x) [] pk tr y (by rw[eO];exact hly)) ?_)));refine fin [(10003,72)] (aI ⟨rfl,rfl⟩ ?_);refine⟨trivial,⟨rfl,rfl,⟨rfl,rfl⟩,trivial⟩,⟨?_,nP⟩,⟨rfl,nP⟩,trivial⟩;show bC (bC (bH xs x y) x) y=fT bk xs c x y;simp only[fT,iq,b1,b2,b3,n7,qG,qH]
 refine aI (fun b4=> ?_) (fun b4=> ?_)
 ·have c4:c=4:=by have b:(c==4)=true:=b4;simpa using b
  have n7:(c==7)=false:=by rw[c4];rfl
  have hyk:∀i:Nat,i<((ah xs y).2.2.2.2.length-1)→ak xs (y,((i+1:Nat):Int)):=fun i hi=>⟨hy0.1,hy0.2,by omega,by show((i+1:Nat):Int)<((ah xs y).2.2.2.2.length:Nat);omega⟩
  refine aI hy0 ?_;refine aI (sJ hlen hy0.1 hy0.2) ?_;refine lp Nat (fun k=>[(13,.int .i64 ((k+1:Nat):Int)),(12,.int .i64 ((ah xs y).2.2.2.2.length:Nat))]) (fun k=>[.dD 10000 56 [.sl 20000,.sl 10002,.int .i64 pk],.row 20000 111 5 aG (rV y xs k) us',.row 10002 2 1 (.int .i64) tr []]) (fun k=>((ah xs y).2.2.2.2.length-1)-k) (fun k=>k≤((ah xs y).2.2.2.2.length-1)) 0 (Nat.zero_le _) ?_ ?_
  ·exact hd [(20000,10001)] rfl (aI (aI rfl rfl) (aI (aI rfl rfl) trivial)) ⟨trivial,⟨rfl,rfl,⟨rfl,rfl⟩,trivial⟩,⟨rfl,pR _⟩,⟨rfl,nP⟩,trivial⟩
  intro k hk;refine aI (fun q4=> ?_) (fun q4=> ?_)
  ·have hlt:k<((ah xs y).2.2.2.2.length-1):=by
    have q5:decide (((k+1:Nat):Int)<((ah xs y).2.2.2.2.length:Nat))=true:=q4;have q6:((k+1:Nat):Int)<((ah xs y).2.2.2.2.length:Nat):=by simpa using q5
    omega
   have hadd:=uG (rV y xs k) us' pk tr 5 0 0 1 (by rw[jQ];omega) (by omega);rw[jQ]at hadd;refine Or.inr (eI _ (eI _ (aI hadd ?_)));refine Or.inl (eI _ (aI (bM _ _) ?_));refine Or.inl (eI _ (aI (bM _ _) ?_));refine Or.inr (eI _ (eI _ (aI (moveB (rV y xs k++[bg 5 0 0 [] 1]) us' pk tr (y,((k+1:Nat):Int)) (((xs.length+k:Nat):Int),0) ((wZ hA h0 k fun i hi=>hyk i (by omega)).add (oh h0 k) _ _ _ _ _) (oh (hyk k hlt) k).app (yZ k)) ?_)));refine bB (k+1) (by omega) ?_ ?_
   ·exact hd [(20000,90)] rfl (aI (aI (eB (by omega)) rfl) (aI (aI rfl rfl) trivial)) ⟨trivial,⟨rfl,rfl,⟨rfl,rfl⟩,trivial⟩,⟨rfl,pR _⟩,⟨rfl,nP⟩,trivial⟩
   ·show((ah xs y).2.2.2.2.length-1)-(k+1)<((ah xs y).2.2.2.2.length-1)-k;omega
  have hge2:((ah xs y).2.2.2.2.length-1)≤k:=by
   have q5:decide (((k+1:Nat):Int)<((ah xs y).2.2.2.2.length:Nat))=false:=q4;have q6:((ah xs y).2.2.2.2.length:Nat)≤((k+1:Nat):Int):=by simpa using q5
   omega
  have hke:k=((ah xs y).2.2.2.2.length-1):=by omega
  subst hke;have hll:xs.length≤(ig xs y).length:=by unfold ig;rw[jQ];omega
  have hlx2:0≤x∧x<((ig xs y).length:Nat):=by omega
  have hly:0≤y∧y<((ig xs y).length:Nat):=by omega
  refine Or.inr (eI _ (eI _ (aI (kJ (ig xs y) us' pk tr x hlx2) ?_)));refine aI (fun _=> ?_) (fun q7=>by have q8:(c !=7)=false:=q7;rw[c4]at q8;cases q8);refine Or.inr (eI _ (eI _ (aI (kJ (bC (ig xs y) x) [] pk tr y (by rw[eO];exact hly)) ?_)));refine fin [(10003,20000)] (aI ⟨rfl,rfl⟩ ?_);refine⟨trivial,⟨rfl,rfl,⟨rfl,rfl⟩,trivial⟩,⟨?_,nP⟩,⟨rfl,nP⟩,trivial⟩;show bC (bC (ig xs y) x) y=fT bk xs c x y;simp only[fT,iq,b1,b2,b3,b4,n7,qG,qH]
 refine aI (fun b5=> ?_) (fun b5=> ?_)
 ·have c5:c=5:=by have b:(c==5)=true:=b5;simpa using b
  have n7:(c==7)=false:=by rw[c5];rfl
  obtain⟨j1,j2,j3⟩:=p5 c5;refine Or.inr (eI _ (eI _ (aI (jT xs us' pk tr x y hA h0 (by omega) hx0 j1 (k5 c5) j2 j3 dy py.2) ?_)));have hll:xs.length≤(bG xs x y).length:=by exact Bd xs x y
  have hlx2:0≤x∧x<((bG xs x y).length:Nat):=by omega
  have hly:0≤y∧y<((bG xs x y).length:Nat):=by omega
  refine Or.inr (eI _ (eI _ (aI (kJ (bG xs x y) us' pk tr x hlx2) ?_)));refine aI (fun _=> ?_) (fun q7=>by have q8:(c !=7)=false:=q7;rw[c5]at q8;cases q8);refine Or.inr (eI _ (eI _ (aI (kJ (bC (bG xs x y) x) [] pk tr y (by rw[eO];exact hly)) ?_)));refine fin [(10003,103)] (aI ⟨rfl,rfl⟩ ?_);refine⟨trivial,⟨rfl,rfl,⟨rfl,rfl⟩,trivial⟩,⟨?_,nP⟩,⟨rfl,nP⟩,trivial⟩;show bC (bC (bG xs x y) x) y=fT bk xs c x y;simp only[fT,iq,b1,b2,b3,b4,b5,n7,qG,qH]
 refine aI (fun b6=> ?_) (fun b6=> ?_)
 ·have c6:c=6:=by have b:(c==6)=true:=b6;simpa using b
  have n7:(c==7)=false:=by rw[c6];rfl
  obtain⟨j1,j2,j3⟩:=p6 c6;refine Or.inr (eI _ (eI _ (aI (SK xs us' pk tr x y hA h0 (by omega) hx0 j1 (k6 c6).1 (k6 c6).2 px.2 px.1 dy py.2) ?_)));have hll:xs.length≤(dx xs x y).length:=by exact Cb xs x y
  have hlx2:0≤x∧x<((dx xs x y).length:Nat):=by omega
  have hly:0≤y∧y<((dx xs x y).length:Nat):=by omega
  refine Or.inr (eI _ (eI _ (aI (kJ (dx xs x y) us' pk tr x hlx2) ?_)));refine aI (fun _=> ?_) (fun q7=>by have q8:(c !=7)=false:=q7;rw[c6]at q8;cases q8);refine Or.inr (eI _ (eI _ (aI (kJ (bC (dx xs x y) x) [] pk tr y (by rw[eO];exact hly)) ?_)));refine fin [(10003,109)] (aI ⟨rfl,rfl⟩ ?_);refine⟨trivial,⟨rfl,rfl,⟨rfl,rfl⟩,trivial⟩,⟨?_,nP⟩,⟨rfl,nP⟩,trivial⟩;show bC (bC (dx xs x y) x) y=fT bk xs c x y;simp only[fT,iq,b1,b2,b3,b4,b5,b6,n7,qG,qH]
 refine aI (fun b7=> ?_) (fun b7=> ?_)
 ·have c7:c=7:=by have b:(c==7)=true:=b7;simpa using b
  have n7:(c==7)=true:=b7;refine aI hx0 ?_;refine aI (h7 c7) ?_;refine Or.inr (eI _ (eI _ (aI (hE c7 us') ?_)));have hll:xs.length≤(eU (bP bk (ah xs x).2.2.1) (ah xs x).2.1 xs y).length:=by unfold eU;rw[jf,qA];omega
  have hlx2:0≤x∧x<((eU (bP bk (ah xs x).2.2.1) (ah xs x).2.1 xs y).length:Nat):=by omega
  have hly:0≤y∧y<((eU (bP bk (ah xs x).2.2.1) (ah xs x).2.1 xs y).length:Nat):=by omega
  refine Or.inr (eI _ (eI _ (aI (kJ (eU (bP bk (ah xs x).2.2.1) (ah xs x).2.1 xs y) us' pk tr x hlx2) ?_)));refine aI (fun q7=>by have q8:(c !=7)=true:=q7;rw[c7]at q8;cases q8) (fun _=> ?_);refine fin [(10003,125)] (aI ⟨rfl,rfl⟩ ?_);refine⟨trivial,⟨rfl,rfl,⟨rfl,rfl⟩,trivial⟩,⟨?_,nP⟩,⟨rfl,nP⟩,trivial⟩;show bC (eU (bP bk (ah xs x).2.2.1) (ah xs x).2.1 xs y) x=fT bk xs c x y;simp only[fT,iq,b1,b2,b3,b4,b5,b6,b7,n7,qG,qH]
 ·exfalso;simp at b1 b2 b3 b4 b5 b6 b7;omega
end
end Go.Proofs.YtcjhkgfmklgikaaGreat
namespace Go.Proofs.YtcjhkgfmklgikaaGreat
open Go Go.RowKit Go.Proofs Go.Tr
theorem QS:bK Tryz.prog 45=true:=by kernel_rfl
def RY(xs:List aj)(k:Int):Bool:=bif dS k 0 ((xs.length:Int)-1)then(ah xs k).1 !=0 else false
def SC(xs:List aj)(a b:Int):Bool:=
 bif (bif decide (0<a)then decide (a<b)else false)then gL [(elt (dflt aR) (ah xs a).2.2.2.2 0).1,(elt (dflt aR) (ah xs a).2.2.2.2 0).2] [b,0]else false
section
variable (bk:List (List aj))(xs:List aj)(us:List Value)(a b:Int)(ha:0≤a∧a<(xs.length:Nat))(hb:0≤b∧b<(xs.length:Nat))
include ha hb
theorem Xt{code:Int}(hc:code≠0)(hD:aA Tryz.prog 58 [.rsl bO bk,.ptr 10000 0,.int .i64 a,.int .i64 b] (tA xs us) (.int .i64 code) (tA xs us)):aA Tryz.prog 45 [.rsl bO bk,.ptr 10000 0,.int .i64 a,.int .i64 b] (tA xs us) (.tup [OP (0,0,0,0,0),.int .i64 code]) (tA xs us):=by
 refine aA.intro (nt:=59) aJ mixed QS Tryz.func45 rfl rfl rfl rfl rfl rfl ?_;refine aI ha ?_;refine aI hb ?_;refine Or.inl (eI _ (eI _ (aI (Gn xs us a b) (eI [] (aI rfl ?_)))));refine aI (by kernel_rfl) ?_;refine Or.inr (eI _ (eI _ (aI hD ?_)));refine aI (fun q1=> ?_) (fun q1=> ?_)
 ·refine fin [] (aI rfl ?_);exact⟨trivial,⟨rfl,trivial⟩,⟨rfl,pR _⟩,trivial⟩
 ·exfalso;have q2:(code !=0)=false:=q1;simp at q2;exact hc q2
theorem Vv{ys:List aj}(hl:xs.length≤1000000)(hly:ys.length≤1000000)(hD:aA Tryz.prog 58 [.rsl bO bk,.ptr 10000 0,.int .i64 a,.int .i64 b] (tA xs us) (.int .i64 0) (J3 10002 ys [])):aA Tryz.prog 45 [.rsl bO bk,.ptr 10000 0,.int .i64 a,.int .i64 b] (tA xs us)
  (bif decide (3000<(ys.length:Int))then .tup [OP (0,0,0,0,0),.int .i64 4]else .tup [OP (a,b,bF (ah xs a) (ah xs b),(xs.length:Int),(ys.length:Int)-(xs.length:Int)),.int .i64 0]) (J3 10002 ys []):=by
 refine aA.intro (nt:=59) aJ mixed QS Tryz.func45 rfl rfl rfl rfl rfl rfl ?_;refine aI ha ?_;refine aI hb ?_;refine Or.inl (eI _ (eI _ (aI (Gn xs us a b) (eI [] (aI rfl ?_)))));refine aI (by kernel_rfl) ?_;refine Or.inr (eI _ (eI _ (aI hD ?_)));refine aI (fun q1=>by cases q1) (fun q1=> ?_);refine aI (by kernel_rfl) ?_;refine aI (fun q1=> ?_) (fun q1=> ?_)
 ·have q2:decide (3000<(ys.length:Int))=true:=q1;rw[q2];refine fin [(10002,37)] (aI rfl ?_);exact⟨trivial,⟨rfl,trivial⟩,⟨rfl,pR _⟩,trivial⟩
 ·have q2:decide (3000<(ys.length:Int))=false:=q1;rw[q2];have hw:IntKind.i64.wrap ((ys.length:Int)-(xs.length:Int))=(ys.length:Int)-(xs.length:Int):=qO _ (by omega);refine fin [(10002,37)] (aI (congrArg (fun z:Int=>(SV.tup [OP (a,b,bF (ah xs a) (ah xs b),(xs.length:Int),z),.int .i64 0])) hw) ?_);exact⟨trivial,⟨rfl,trivial⟩,⟨rfl,pR _⟩,trivial⟩
end
end Go.Proofs.YtcjhkgfmklgikaaGreat
namespace Go.Proofs.YtcjhkgfmklgikaaGreat
open Go Go.RowKit Go.Proofs Go.Tr
section
variable (bk:List (List aj))(xs:List aj)(us:List Value)(e:aT)(hl:xs.length≤1000000)
include hl
variable (ha:RY xs e.1=true)(hb:RY xs e.2.1=true)(hp:0<(ah xs e.1).2.2.2.2.length)
include ha hb hp
variable (h:SC xs e.1 e.2.1=true)
include h
end
end Go.Proofs.YtcjhkgfmklgikaaGreat
