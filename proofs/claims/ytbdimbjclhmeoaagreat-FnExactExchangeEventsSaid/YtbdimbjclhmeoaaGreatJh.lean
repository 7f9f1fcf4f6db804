
/- The reference's nets: wires, new agents, holes. -/
import Derived.Test.YtbdimbjclhmeoaaGreatShort
import Derived.Test.YtbdimbjclhmeoaaGreatProg
import Derived.Test.YtbdimbjclhmeoaaGreatVti
import Derived.Test.YtbdimbjclhmeoaaGreatNy
import Derived.Test.YtbdimbjclhmeoaaGreatIo
import Derived.Test.YtbdimbjclhmeoaaGreatVV
set_option maxHeartbeats 4000000
set_option maxRecDepth 100000
set_option linter.unusedSimpArgs false
set_option linter.unusedVariables false
set_option linter.unusedSectionVars false
namespace Go.Proofs.YtbdimbjclhmeoaaGreat
open Go Go.RowKit Go.Proofs Go.Tr
theorem BZ:bI Tryz.prog 197=true:=by kernel_rfl
theorem Iz:bI Tryz.prog 196=true:=by kernel_rfl
theorem Oo:bI Tryz.prog 157=true:=by kernel_rfl
theorem Iy:bI Tryz.prog 156=true:=by kernel_rfl
theorem d9(a b:Int):aJ Tryz.prog 68 [.int .i64 a,.int .i64 b] (.agg [.int .i64 a,.int .i64 b]):=by
 refine aJ.intro (nt:=8) aG mixed (by kernel_rfl) Tryz.func68 rfl rfl rfl rfl rfl ?_;exact rfl
theorem Xn(xs:List aj)(p:aC)(hp:ak xs p):aJ Tryz.prog 196 [.rp aZ xs,vP p] (vP (ay xs p)):=by
 obtain⟨p1,p2,p3,p4⟩:=hp;refine aJ.intro (nt:=18) aG mixed Iz Tryz.func196 rfl rfl rfl rfl rfl ?_;refine aI ⟨p1,p2⟩ ?_;refine aI ⟨p3,p4⟩ ?_;refine aI (by kernel_rfl) ?_;exact rfl
theorem Tz:bI Tryz.prog 133=true:=by kernel_rfl
theorem Yz(xs:List Int)(hx:xs.length≤1048576):aA Tryz.prog 133 [.rsl (.int .i64) xs] [] (.sl 10000) [.row 10000 2 1 (.int .i64) xs []]:=by
 refine aA.intro (nt:=6) aG mixed Tz Tryz.func133 rfl rfl rfl rfl rfl rfl ?_;refine aI (by show 0+xs.length≤_;omega) ?_;refine fin [(10000,5)] (aI rfl ?_);exact⟨⟨rfl,nP⟩,trivial⟩
theorem Oy:aA Tryz.prog 133 [.raw (.slice none 0 0)] [] (.sl 10000) [.row 10000 2 1 (.int .i64) [] []]:=aA.of_nil (Yz [] (by simp))
theorem Oz(ds:List Int)(hd:ds.length≤1048576):aA Tryz.prog 133 [.sl 10000] [.row 10000 2 1 (.int .i64) ds []] (.sl 10001) [.row 10001 2 1 (.int .i64) ds [],.row 10000 2 1 (.int .i64) ds []]:=
 aA.Du (ts2:=[.row 10001 2 1 (.int .i64) ds []]) aG [0] Tz (Yz ds hd) rfl rfl rfl
theorem Kl:bI Tryz.prog 102=true:=by kernel_rfl
theorem Ms(x:aj)(h1:x.2.2.2.1.length≤1048576)(h2:x.2.2.2.2.length≤1048576):aA Tryz.prog 102 [.rp aF x] [] (.agg [.int .i64 x.1,.int .i64 x.2.1,.int .i64 x.2.2.1,.sl 10000,.sl 10001]) [.row 10000 2 1 (.int .i64) x.2.2.2.1 [],.row 10001 119 2 bf x.2.2.2.2 []]:=by
 refine aA.intro (nt:=27) aG mixed Kl Tryz.func102 rfl rfl rfl rfl rfl rfl ?_;refine Or.inr (eI _ (eI _ (aI (Yz _ h1) ?_)));refine aI (by show 0+x.2.2.2.2.length≤_;omega) ?_;refine aI (by kernel_rfl) ?_;refine fin [(10000,19),(10001,25)] (aI rfl ?_);exact⟨⟨rfl,nP⟩,⟨rfl,nP⟩,trivial⟩
theorem IC(xs:List aj)(us:List Value)(i:Int)(h1:(ah xs i).2.2.2.1.length≤1048576)(h2:(ah xs i).2.2.2.2.length≤1048576):aA Tryz.prog 102 [.ep 10000 5 i 0] [.row 10000 117 5 aF xs us] (.agg [.int .i64 (ah xs i).1,.int .i64 (ah xs i).2.1,.int .i64 (ah xs i).2.2.1,.sl 10001,.sl 10002]) [.row 10001 2 1 (.int .i64) (ah xs i).2.2.2.1 [],.row 10002 119 2 bf (ah xs i).2.2.2.2 [],.row 10000 117 5 aF xs us]:=
 aA.Du (ts2:=[.row 10001 2 1 (.int .i64) (ah xs i).2.2.2.1 [],.row 10002 119 2 bf (ah xs i).2.2.2.2 []]) aG [0] Kl (Ms (ah xs i) h1 h2) rfl rfl rfl
abbrev tA(xs:List aj)(us:List Value):List Tok:=[.dF 10000 37 [.sl 10001],.row 10001 117 5 aF xs us]
abbrev IV(g:Nat)(xs:List aj)(us:List Value):List Tok:=[.dF 10000 37 [.sl g],.row g 117 5 aF xs us]
theorem FV(xs:List aj)(us:List Value)(p q:aC)(hp:ak xs p)(hq:ak xs q):aA Tryz.prog 197 [.ptr 10000 0,vP p,vP q] (tA xs us) (.tup []) (tA (bE xs p q) us):=by
 refine aA.expose BZ ?_;intro us' hpre hlen
 skip
 have hq':ak (aL xs p q) q:=hq.set;obtain⟨p1,p2,p3,p4⟩:=hp;obtain⟨q1,q2,q3,q4⟩:=hq';have q2':q.1<(xs.length:Nat):=by rwa[bW]at q2
 refine aA.intro (nt:=32) aG mixed BZ Tryz.func197 rfl rfl rfl rfl rfl rfl ?_;refine aI ⟨p1,p2⟩ ?_;refine aI (sI hlen p1 p2) ?_;refine aI ⟨p3,p4⟩ ?_;refine eI 10001 (aI ⟨⟨p1,p2,oL hlen p1 p2 (by decide)⟩,p3,p4⟩ ?_);refine aI (by kernel_rfl) ?_;refine aI ⟨q1,q2⟩ ?_;refine aI (sI hlen q1 q2') ?_;refine aI ⟨q3,q4⟩ ?_;refine eI 10001 (aI ⟨⟨q1,q2,oL hlen q1 q2' (by decide)⟩,q3,q4⟩ ?_);refine aI (by kernel_rfl) ?_;refine fin [] (aI rfl ?_);exact⟨trivial,⟨rfl,trivial⟩,⟨rfl,hpre⟩,trivial⟩
theorem TH(xs:List aj)(us:List Value)(p:aC)(hp:ak xs p):aA Tryz.prog 196 [.ptr 10000 0,vP p] (tA xs us) (vP (ay xs p)) (tA xs us):=
 aA.sU aG [64,0] Iz (Xn xs p hp) rfl
theorem moveA(xs:List aj)(us:List Value)(p q:aC)(hA:bO xs)(hp:ak xs p)(hq:ak xs q):aA Tryz.prog 157 [.ptr 10000 0,vP p,vP q] (tA xs us) (.tup []) (tA (bX xs p q) us):=by
 have hl:=FV xs us q (ay xs p) hq (hA p hp);rw[rD hq (hA p hp)]at hl;refine aA.intro (nt:=12) aG mixed Oo Tryz.func157 rfl rfl rfl rfl rfl rfl ?_;refine Or.inr (eI _ (eI _ (aI (TH xs us p hp) ?_)));refine Or.inr (eI _ (eI _ (aI hl ?_)));refine aI (by kernel_rfl) ?_;refine fin [] (aI rfl ?_);exact⟨trivial,⟨rfl,trivial⟩,⟨rfl,pR _⟩,trivial⟩
theorem N8(xs:List aj)(us:List Value)(p q:aC)(hp:ak xs p)(hq:ak xs q)(hr:ak xs (ay xs p))(hs:ak xs (ay xs q)):aA Tryz.prog 154 [.ptr 10000 0,vP p,vP q] (tA xs us) (.tup []) (tA (aY xs p q) us):=by
 refine aA.intro (nt:=21) aG mixed (by kernel_rfl) Tryz.func154 rfl rfl rfl rfl rfl rfl ?_;refine Or.inr (eI _ (eI _ (aI (TH xs us p hp) ?_)));refine Or.inr (eI _ (eI _ (aI (TH xs us q hq) ?_)));refine aI ⟨by kernel_rfl,rfl⟩ ?_;refine aI (fun h1=> ?_) (fun h1=> ?_)
 ·refine Or.inr (eI _ (eI _ (aI (FV xs us (ay xs p) (ay xs q) hr hs) ?_)));refine fin [] (aI rfl ?_);refine⟨trivial,⟨rfl,trivial⟩,⟨?_,pR _⟩,trivial⟩;have h1:(!bT [(ay xs p).1,(ay xs p).2] [q.1,q.2])=true:=h1
  have h2:((ay xs p).1==q.1&&(ay xs p).2==q.2)=false:=by
   cases hc:((ay xs p).1==q.1&&(ay xs p).2==q.2)with
   |false=>rfl
   |true=>simp[bT,hc]at h1
  show bE xs (ay xs p) (ay xs q)=_;unfold aY;rw[h2];rfl
 ·refine fin [] (aI rfl ?_);refine⟨trivial,⟨rfl,trivial⟩,⟨?_,pR _⟩,trivial⟩;have h1:(!bT [(ay xs p).1,(ay xs p).2] [q.1,q.2])=false:=h1;have h2:((ay xs p).1==q.1&&(ay xs p).2==q.2)=true:=by simpa[bT]using h1
  show xs=_;unfold aY;rw[h2];rfl
theorem kM(xs:List aj)(us:List Value)(a:Int)(ha:0≤a∧a<(xs.length:Nat)):aA Tryz.prog 161 [.ptr 10000 0,.int .i64 a] (tA xs us) (.tup []) (tA (bn xs a) []):=by
 refine aA.intro (nt:=11) aG mixed (by kernel_rfl) Tryz.func161 rfl rfl rfl rfl rfl rfl ?_;refine aI ha ?_;refine fin [] (aI rfl ?_);exact⟨trivial,⟨rfl,trivial⟩,⟨rfl,nP⟩,trivial⟩
theorem uJ(xs:List aj)(us:List Value)(k l v:Int)(n:Nat)(hl:xs.length≤1000000)(hn:n≤1000000):aA Tryz.prog 156 [.ptr 10000 0,.int .i64 k,.int .i64 l,.int .i64 v,.raw (.slice none 0 0),.int .i64 (n:Nat)] (tA xs us) (.int .i64 (xs.length:Nat)) (IV 10002 (xs++[aX k l v [] n]) us):=by
 refine aA.intro (nt:=48) aG mixed Iy Tryz.func156 rfl rfl rfl rfl rfl rfl ?_;refine Or.inr (eI _ (eI _ (aI Oy ?_)))
 refine lp Nat (fun j=>[(14,.int .i64 ((n:Nat)-(j:Nat)))])
  (fun j=>match j with|0=>[.dF 13 117 [.int .i64 k,.int .i64 l,.int .i64 v,.sl 19,.raw (.slice none 0 0)],.dF 10000 37 [.sl 10001],.row 10001 117 5 aF xs us,.row 19 2 1 (.int .i64) [] []]|j+1=>[.dF 13 117 [.int .i64 k,.int .i64 l,.int .i64 v,.sl 19,.sl 20001],.dF 10000 37 [.sl 10001],.row 10001 117 5 aF xs us,.row 19 2 1 (.int .i64) [] [],.row 20001 119 2 bf (List.replicate (j+1) (0,0)) []])
  (fun j=>n-j) (fun j=>j≤n) 0 (Nat.zero_le _) ?_ ?_
 ·exact hd [] rfl (aI (aI (Int.sub_zero _).symm rfl) trivial) ⟨trivial,⟨⟨rfl,rfl⟩,⟨rfl,rfl⟩,⟨rfl,rfl⟩,rfl,rfl,trivial⟩,trivial,⟨rfl,trivial⟩,⟨rfl,pR _⟩,⟨rfl,nP⟩,trivial⟩
 intro j hj;have hwr:IntKind.i64.wrap ((n:Nat)-(j:Nat)-1)=(n:Nat)-((j+1:Nat):Int):=by rw[qO _ (by omega)];omega
 cases j with
 |zero=>
  refine aI (fun q1=> ?_) (fun q1=> ?_)
  ·have hlt:0<n:=by have q2:decide ((0:Int)<(n:Nat)-((0:Nat):Int))=true:=q1;simp at q2;omega
   refine aI (by show 1≤1073741824;omega) ?_;refine bF 1 (by omega) ?_ ?_
   ·exact hd [(20001,30)] rfl (aI (aI hwr rfl) trivial) ⟨trivial,⟨⟨rfl,rfl⟩,⟨rfl,rfl⟩,⟨rfl,rfl⟩,rfl,rfl,trivial⟩,trivial,⟨rfl,trivial⟩,⟨rfl,pR _⟩,⟨rfl,nP⟩,⟨rfl,nP⟩,trivial⟩
   ·show n-1<n-0;omega
  ·have hn0:n=0:=by have q2:decide ((0:Int)<(n:Nat)-((0:Nat):Int))=false:=q1;simp at q2;omega
   refine aI (by show xs.length+1≤_;omega) ?_;refine aI (by kernel_rfl) ?_;refine fin [(10002,39)] (aI ?_ ?_)
   ·show IntKind.i64.wrap (((xs++[_]).length:Nat)-1)=((xs.length:Nat):Int)∧IntKind.i64=IntKind.i64;rw[qA,qJ,qO _ (by omega)];exact⟨by omega,rfl⟩
   ·refine⟨trivial,⟨rfl,trivial⟩,⟨?_,pR _⟩,trivial⟩;show xs++[(k,l,v,[],[])]=xs++[aX k l v [] n];unfold aX;rw[hn0];rfl
 |succ j=>
  refine aI (fun q1=> ?_) (fun q1=> ?_)
  ·have hlt:j+1<n:=by have q2:decide ((0:Int)<(n:Nat)-((j+1:Nat):Int))=true:=q1;simp at q2;omega
   refine aI (by show(List.replicate (j+1) ((0:Int),(0:Int))).length+1≤1073741824;rw[List.length_replicate];omega) ?_;refine bF (j+2) (by omega) ?_ ?_
   ·refine hd [(20001,30)] rfl (aI (aI hwr rfl) trivial) ⟨trivial,⟨⟨rfl,rfl⟩,⟨rfl,rfl⟩,⟨rfl,rfl⟩,rfl,rfl,trivial⟩,trivial,⟨rfl,trivial⟩,⟨rfl,pR _⟩,⟨rfl,nP⟩,⟨?_,nP⟩,trivial⟩;show List.replicate (j+1) ((0:Int),(0:Int))++[(0,0)]=List.replicate (j+1+1) (0,0);rw[List.replicate_succ' (n:=j+1)]
   ·show n-(j+2)<n-(j+1);omega
  ·have hn0:n=j+1:=by have q2:decide ((0:Int)<(n:Nat)-((j+1:Nat):Int))=false:=q1;simp at q2;omega
   refine aI (by show xs.length+1≤_;omega) ?_;refine aI (by kernel_rfl) ?_;refine fin [(10002,39)] (aI ?_ ?_)
   ·show IntKind.i64.wrap (((xs++[_]).length:Nat)-1)=((xs.length:Nat):Int)∧IntKind.i64=IntKind.i64;rw[qA,qJ,qO _ (by omega)];exact⟨by omega,rfl⟩
   ·refine⟨trivial,⟨rfl,trivial⟩,⟨?_,pR _⟩,trivial⟩;show xs++[(k,l,v,[],List.replicate (j+1) (0,0))]=xs++[aX k l v [] n];unfold aX;rw[hn0]
theorem GH(xs:List aj)(us:List Value)(k l v:Int)(n:Nat)(ds:List Int)(hl:xs.length≤1000000)(hn:n≤1000000)(hd0:ds.length≤1000000):aA Tryz.prog 156 [.ptr 10000 0,.int .i64 k,.int .i64 l,.int .i64 v,.sl 10002,.int .i64 (n:Nat)] (tA xs us++[.row 10002 2 1 (.int .i64) ds []]) (.int .i64 (xs.length:Nat)) (IV 10003 (xs++[aX k l v ds n]) us++[.row 10002 2 1 (.int .i64) ds []]):=by
 refine aA.intro (nt:=48) aG mixed Iy Tryz.func156 rfl rfl rfl rfl rfl rfl ?_;refine Or.inr (eI _ (eI _ (aI (Oz ds (by omega)) ?_)))
 refine lp Nat (fun j=>[(14,.int .i64 ((n:Nat)-(j:Nat)))])
  (fun j=>match j with|0=>[.dF 13 117 [.int .i64 k,.int .i64 l,.int .i64 v,.sl 19,.raw (.slice none 0 0)],.dF 10000 37 [.sl 10001],.row 10001 117 5 aF xs us,.row 10002 2 1 (.int .i64) ds [],.row 19 2 1 (.int .i64) ds []]|j+1=>[.dF 13 117 [.int .i64 k,.int .i64 l,.int .i64 v,.sl 19,.sl 20001],.dF 10000 37 [.sl 10001],.row 10001 117 5 aF xs us,.row 10002 2 1 (.int .i64) ds [],.row 19 2 1 (.int .i64) ds [],.row 20001 119 2 bf (List.replicate (j+1) (0,0)) []])
  (fun j=>n-j) (fun j=>j≤n) 0 (Nat.zero_le _) ?_ ?_
 ·exact hd [] rfl (aI (aI (Int.sub_zero _).symm rfl) trivial) ⟨trivial,⟨⟨rfl,rfl⟩,⟨rfl,rfl⟩,⟨rfl,rfl⟩,rfl,rfl,trivial⟩,trivial,⟨rfl,trivial⟩,⟨rfl,pR _⟩,⟨rfl,nP⟩,⟨rfl,nP⟩,trivial⟩
 intro j hj;have hwr:IntKind.i64.wrap ((n:Nat)-(j:Nat)-1)=(n:Nat)-((j+1:Nat):Int):=by rw[qO _ (by omega)];omega
 cases j with
 |zero=>
  refine aI (fun q1=> ?_) (fun q1=> ?_)
  ·have hlt:0<n:=by have q2:decide ((0:Int)<(n:Nat)-((0:Nat):Int))=true:=q1;simp at q2;omega
   refine aI (by show 1≤1073741824;omega) ?_;refine bF 1 (by omega) ?_ ?_
   ·exact hd [(20001,30)] rfl (aI (aI hwr rfl) trivial) ⟨trivial,⟨⟨rfl,rfl⟩,⟨rfl,rfl⟩,⟨rfl,rfl⟩,rfl,rfl,trivial⟩,trivial,⟨rfl,trivial⟩,⟨rfl,pR _⟩,⟨rfl,nP⟩,⟨rfl,nP⟩,⟨rfl,nP⟩,trivial⟩
   ·show n-1<n-0;omega
  ·have hn0:n=0:=by have q2:decide ((0:Int)<(n:Nat)-((0:Nat):Int))=false:=q1;simp at q2;omega
   refine aI (by show xs.length+1≤_;omega) ?_;refine aI (by kernel_rfl) ?_;refine fin [(10003,39)] (aI ?_ ?_)
   ·show IntKind.i64.wrap (((xs++[_]).length:Nat)-1)=((xs.length:Nat):Int)∧IntKind.i64=IntKind.i64;rw[qA,qJ,qO _ (by omega)];exact⟨by omega,rfl⟩
   ·refine⟨trivial,⟨rfl,trivial⟩,⟨?_,pR _⟩,⟨rfl,nP⟩,trivial⟩;show xs++[(k,l,v,ds,[])]=xs++[aX k l v ds n];unfold aX;rw[hn0];rfl
 |succ j=>
  refine aI (fun q1=> ?_) (fun q1=> ?_)
  ·have hlt:j+1<n:=by have q2:decide ((0:Int)<(n:Nat)-((j+1:Nat):Int))=true:=q1;simp at q2;omega
   refine aI (by show(List.replicate (j+1) ((0:Int),(0:Int))).length+1≤1073741824;rw[List.length_replicate];omega) ?_;refine bF (j+2) (by omega) ?_ ?_
   ·refine hd [(20001,30)] rfl (aI (aI hwr rfl) trivial) ⟨trivial,⟨⟨rfl,rfl⟩,⟨rfl,rfl⟩,⟨rfl,rfl⟩,rfl,rfl,trivial⟩,trivial,⟨rfl,trivial⟩,⟨rfl,pR _⟩,⟨rfl,nP⟩,⟨rfl,nP⟩,⟨?_,nP⟩,trivial⟩;show List.replicate (j+1) ((0:Int),(0:Int))++[(0,0)]=List.replicate (j+1+1) (0,0);rw[List.replicate_succ' (n:=j+1)]
   ·show n-(j+2)<n-(j+1);omega
  ·have hn0:n=j+1:=by have q2:decide ((0:Int)<(n:Nat)-((j+1:Nat):Int))=false:=q1;simp at q2;omega
   refine aI (by show xs.length+1≤_;omega) ?_;refine aI (by kernel_rfl) ?_;refine fin [(10003,39)] (aI ?_ ?_)
   ·show IntKind.i64.wrap (((xs++[_]).length:Nat)-1)=((xs.length:Nat):Int)∧IntKind.i64=IntKind.i64;rw[qA,qJ,qO _ (by omega)];exact⟨by omega,rfl⟩
   ·refine⟨trivial,⟨rfl,trivial⟩,⟨?_,pR _⟩,⟨rfl,nP⟩,trivial⟩;show xs++[(k,l,v,ds,List.replicate (j+1) (0,0))]=xs++[aX k l v ds n];unfold aX;rw[hn0]
abbrev tB(xs:List aj)(us:List Value)(pk:Int)(tr:List Int):List Tok:=[.dF 10000 89 [.sl 10001,.sl 10002,.int .i64 pk],.row 10001 117 5 aF xs us,.row 10002 2 1 (.int .i64) tr []]
abbrev tBn(g:Nat)(xs:List aj)(us:List Value)(pk:Int)(tr:List Int):List Tok:=[.dF 10000 89 [.sl g,.sl 10002,.int .i64 pk],.row g 117 5 aF xs us,.row 10002 2 1 (.int .i64) tr []]
theorem ZO(xs:List aj)(us:List Value)(pk:Int)(tr:List Int)(p q:aC)(hp:ak xs p)(hq:ak xs q):aA Tryz.prog 197 [.ptr 10000 0,vP p,vP q] (tB xs us pk tr) (.tup []) (tB (bE xs p q) us pk tr):=by
 refine aA.expose BZ ?_;intro us' hpre hlen;intro us2 hpre2 hlen2;have hq':ak (aL xs p q) q:=hq.set;obtain⟨p1,p2,p3,p4⟩:=hp;obtain⟨q1,q2,q3,q4⟩:=hq';have q2':q.1<(xs.length:Nat):=by rwa[bW]at q2
 refine aA.intro (nt:=32) aG mixed BZ Tryz.func197 rfl rfl rfl rfl rfl rfl ?_;refine aI ⟨p1,p2⟩ ?_;refine aI (sI hlen p1 p2) ?_;refine aI ⟨p3,p4⟩ ?_;refine eI 10001 (aI ⟨⟨p1,p2,oL hlen p1 p2 (by decide)⟩,p3,p4⟩ ?_);refine aI (by kernel_rfl) ?_;refine aI ⟨q1,q2⟩ ?_;refine aI (sI hlen q1 q2') ?_;refine aI ⟨q3,q4⟩ ?_;refine eI 10001 (aI ⟨⟨q1,q2,oL hlen q1 q2' (by decide)⟩,q3,q4⟩ ?_);refine aI (by kernel_rfl) ?_;refine fin [] (aI rfl ?_);exact⟨trivial,⟨rfl,rfl,⟨rfl,rfl⟩,trivial⟩,⟨rfl,hpre⟩,⟨rfl,nP⟩,trivial⟩
theorem Z0(xs:List aj)(us:List Value)(pk:Int)(tr:List Int)(p:aC)(hp:ak xs p):aA Tryz.prog 196 [.ptr 10000 0,vP p] (tB xs us pk tr) (vP (ay xs p)) (tB xs us pk tr):=
 aA.sU aG [64,0] Iz (Xn xs p hp) rfl
theorem moveB(xs:List aj)(us:List Value)(pk:Int)(tr:List Int)(p q:aC)(hA:bO xs)(hp:ak xs p)(hq:ak xs q):aA Tryz.prog 157 [.ptr 10000 0,vP p,vP q] (tB xs us pk tr) (.tup []) (tB (bX xs p q) us pk tr):=by
 have hl:=ZO xs us pk tr q (ay xs p) hq (hA p hp);rw[rD hq (hA p hp)]at hl;refine aA.intro (nt:=12) aG mixed Oo Tryz.func157 rfl rfl rfl rfl rfl rfl ?_;refine Or.inr (eI _ (eI _ (aI (Z0 xs us pk tr p hp) ?_)));refine Or.inr (eI _ (eI _ (aI hl ?_)));refine aI (by kernel_rfl) ?_;refine fin [] (aI rfl ?_);exact⟨trivial,⟨rfl,rfl,⟨rfl,rfl⟩,trivial⟩,⟨rfl,pR _⟩,⟨rfl,nP⟩,trivial⟩
theorem U7(xs:List aj)(us:List Value)(pk:Int)(tr:List Int)(k l v:Int)(n:Nat)(hl:xs.length≤1000000)(hn:n≤1000000):aA Tryz.prog 156 [.ptr 10000 0,.int .i64 k,.int .i64 l,.int .i64 v,.raw (.slice none 0 0),.int .i64 (n:Nat)] (tB xs us pk tr) (.int .i64 (xs.length:Nat)) (tBn 10003 (xs++[aX k l v [] n]) us pk tr):=by
 refine aA.intro (nt:=48) aG mixed Iy Tryz.func156 rfl rfl rfl rfl rfl rfl ?_;refine Or.inr (eI _ (eI _ (aI Oy ?_)))
 refine lp Nat (fun j=>[(14,.int .i64 ((n:Nat)-(j:Nat)))])
  (fun j=>match j with|0=>[.dF 13 117 [.int .i64 k,.int .i64 l,.int .i64 v,.sl 19,.raw (.slice none 0 0)],.dF 10000 89 [.sl 10001,.sl 10002,.int .i64 pk],.row 10001 117 5 aF xs us,.row 10002 2 1 (.int .i64) tr [],.row 19 2 1 (.int .i64) [] []]|j+1=>[.dF 13 117 [.int .i64 k,.int .i64 l,.int .i64 v,.sl 19,.sl 20001],.dF 10000 89 [.sl 10001,.sl 10002,.int .i64 pk],.row 10001 117 5 aF xs us,.row 10002 2 1 (.int .i64) tr [],.row 19 2 1 (.int .i64) [] [],.row 20001 119 2 bf (List.replicate (j+1) (0,0)) []])
  (fun j=>n-j) (fun j=>j≤n) 0 (Nat.zero_le _) ?_ ?_
 ·exact hd [] rfl (aI (aI (Int.sub_zero _).symm rfl) trivial) ⟨trivial,⟨⟨rfl,rfl⟩,⟨rfl,rfl⟩,⟨rfl,rfl⟩,rfl,rfl,trivial⟩,trivial,⟨rfl,rfl,⟨rfl,rfl⟩,trivial⟩,⟨rfl,pR _⟩,⟨rfl,nP⟩,⟨rfl,nP⟩,trivial⟩
 intro j hj;have hwr:IntKind.i64.wrap ((n:Nat)-(j:Nat)-1)=(n:Nat)-((j+1:Nat):Int):=by rw[qO _ (by omega)];omega
 cases j with
 |zero=>
  refine aI (fun q1=> ?_) (fun q1=> ?_)
  ·have hlt:0<n:=by have q2:decide ((0:Int)<(n:Nat)-((0:Nat):Int))=true:=q1;simp at q2;omega
   refine aI (by show 1≤1073741824;omega) ?_;refine bF 1 (by omega) ?_ ?_
   ·exact hd [(20001,30)] rfl (aI (aI hwr rfl) trivial) ⟨trivial,⟨⟨rfl,rfl⟩,⟨rfl,rfl⟩,⟨rfl,rfl⟩,rfl,rfl,trivial⟩,trivial,⟨rfl,rfl,⟨rfl,rfl⟩,trivial⟩,⟨rfl,pR _⟩,⟨rfl,nP⟩,⟨rfl,nP⟩,⟨rfl,nP⟩,trivial⟩
   ·show n-1<n-0;omega
  ·have hn0:n=0:=by have q2:decide ((0:Int)<(n:Nat)-((0:Nat):Int))=false:=q1;simp at q2;omega
   refine aI (by show xs.length+1≤_;omega) ?_;refine aI (by kernel_rfl) ?_;refine fin [(10003,39)] (aI ?_ ?_)
   ·show IntKind.i64.wrap (((xs++[_]).length:Nat)-1)=((xs.length:Nat):Int)∧IntKind.i64=IntKind.i64;rw[qA,qJ,qO _ (by omega)];exact⟨by omega,rfl⟩
   ·refine⟨trivial,⟨rfl,rfl,⟨rfl,rfl⟩,trivial⟩,⟨?_,pR _⟩,⟨rfl,nP⟩,trivial⟩;show xs++[(k,l,v,[],[])]=xs++[aX k l v [] n];unfold aX;rw[hn0];rfl
 |succ j=>
  refine aI (fun q1=> ?_) (fun q1=> ?_)
  ·have hlt:j+1<n:=by have q2:decide ((0:Int)<(n:Nat)-((j+1:Nat):Int))=true:=q1;simp at q2;omega
   refine aI (by show(List.replicate (j+1) ((0:Int),(0:Int))).length+1≤1073741824;rw[List.length_replicate];omega) ?_;refine bF (j+2) (by omega) ?_ ?_
   ·refine hd [(20001,30)] rfl (aI (aI hwr rfl) trivial) ⟨trivial,⟨⟨rfl,rfl⟩,⟨rfl,rfl⟩,⟨rfl,rfl⟩,rfl,rfl,trivial⟩,trivial,⟨rfl,rfl,⟨rfl,rfl⟩,trivial⟩,⟨rfl,pR _⟩,⟨rfl,nP⟩,⟨rfl,nP⟩,⟨?_,nP⟩,trivial⟩;show List.replicate (j+1) ((0:Int),(0:Int))++[(0,0)]=List.replicate (j+1+1) (0,0);rw[List.replicate_succ' (n:=j+1)]
   ·show n-(j+2)<n-(j+1);omega
  ·have hn0:n=j+1:=by have q2:decide ((0:Int)<(n:Nat)-((j+1:Nat):Int))=false:=q1;simp at q2;omega
   refine aI (by show xs.length+1≤_;omega) ?_;refine aI (by kernel_rfl) ?_;refine fin [(10003,39)] (aI ?_ ?_)
   ·show IntKind.i64.wrap (((xs++[_]).length:Nat)-1)=((xs.length:Nat):Int)∧IntKind.i64=IntKind.i64;rw[qA,qJ,qO _ (by omega)];exact⟨by omega,rfl⟩
   ·refine⟨trivial,⟨rfl,rfl,⟨rfl,rfl⟩,trivial⟩,⟨?_,pR _⟩,⟨rfl,nP⟩,trivial⟩;show xs++[(k,l,v,[],List.replicate (j+1) (0,0))]=xs++[aX k l v [] n];unfold aX;rw[hn0]
theorem U8(xs:List aj)(us:List Value)(pk:Int)(tr:List Int)(k l v:Int)(n:Nat)(ds:List Int)(hl:xs.length≤1000000)(hn:n≤1000000)(hd0:ds.length≤1000000):aA Tryz.prog 156 [.ptr 10000 0,.int .i64 k,.int .i64 l,.int .i64 v,.sl 10003,.int .i64 (n:Nat)] (tB xs us pk tr++[.row 10003 2 1 (.int .i64) ds []]) (.int .i64 (xs.length:Nat)) (tBn 10004 (xs++[aX k l v ds n]) us pk tr++[.row 10003 2 1 (.int .i64) ds []]):=by
 refine aA.intro (nt:=48) aG mixed Iy Tryz.func156 rfl rfl rfl rfl rfl rfl ?_;refine Or.inr (eI _ (eI _ (aI (Oz ds (by omega)) ?_)))
 refine lp Nat (fun j=>[(14,.int .i64 ((n:Nat)-(j:Nat)))])
  (fun j=>match j with|0=>[.dF 13 117 [.int .i64 k,.int .i64 l,.int .i64 v,.sl 19,.raw (.slice none 0 0)],.dF 10000 89 [.sl 10001,.sl 10002,.int .i64 pk],.row 10001 117 5 aF xs us,.row 10002 2 1 (.int .i64) tr [],.row 10003 2 1 (.int .i64) ds [],.row 19 2 1 (.int .i64) ds []]|j+1=>[.dF 13 117 [.int .i64 k,.int .i64 l,.int .i64 v,.sl 19,.sl 20001],.dF 10000 89 [.sl 10001,.sl 10002,.int .i64 pk],.row 10001 117 5 aF xs us,.row 10002 2 1 (.int .i64) tr [],.row 10003 2 1 (.int .i64) ds [],.row 19 2 1 (.int .i64) ds [],.row 20001 119 2 bf (List.replicate (j+1) (0,0)) []])
  (fun j=>n-j) (fun j=>j≤n) 0 (Nat.zero_le _) ?_ ?_
 ·exact hd [] rfl (aI (aI (Int.sub_zero _).symm rfl) trivial) ⟨trivial,⟨⟨rfl,rfl⟩,⟨rfl,rfl⟩,⟨rfl,rfl⟩,rfl,rfl,trivial⟩,trivial,⟨rfl,rfl,⟨rfl,rfl⟩,trivial⟩,⟨rfl,pR _⟩,⟨rfl,nP⟩,⟨rfl,nP⟩,⟨rfl,nP⟩,trivial⟩
 intro j hj;have hwr:IntKind.i64.wrap ((n:Nat)-(j:Nat)-1)=(n:Nat)-((j+1:Nat):Int):=by rw[qO _ (by omega)];omega
 cases j with
 |zero=>
  refine aI (fun q1=> ?_) (fun q1=> ?_)
  ·have hlt:0<n:=by have q2:decide ((0:Int)<(n:Nat)-((0:Nat):Int))=true:=q1;simp at q2;omega
   refine aI (by show 1≤1073741824;omega) ?_;refine bF 1 (by omega) ?_ ?_
   ·exact hd [(20001,30)] rfl (aI (aI hwr rfl) trivial) ⟨trivial,⟨⟨rfl,rfl⟩,⟨rfl,rfl⟩,⟨rfl,rfl⟩,rfl,rfl,trivial⟩,trivial,⟨rfl,rfl,⟨rfl,rfl⟩,trivial⟩,⟨rfl,pR _⟩,⟨rfl,nP⟩,⟨rfl,nP⟩,⟨rfl,nP⟩,⟨rfl,nP⟩,trivial⟩
   ·show n-1<n-0;omega
  ·have hn0:n=0:=by have q2:decide ((0:Int)<(n:Nat)-((0:Nat):Int))=false:=q1;simp at q2;omega
   refine aI (by show xs.length+1≤_;omega) ?_;refine aI (by kernel_rfl) ?_;refine fin [(10004,39)] (aI ?_ ?_)
   ·show IntKind.i64.wrap (((xs++[_]).length:Nat)-1)=((xs.length:Nat):Int)∧IntKind.i64=IntKind.i64;rw[qA,qJ,qO _ (by omega)];exact⟨by omega,rfl⟩
   ·refine⟨trivial,⟨rfl,rfl,⟨rfl,rfl⟩,trivial⟩,⟨?_,pR _⟩,⟨rfl,nP⟩,⟨rfl,nP⟩,trivial⟩;show xs++[(k,l,v,ds,[])]=xs++[aX k l v ds n];unfold aX;rw[hn0];rfl
 |succ j=>
  refine aI (fun q1=> ?_) (fun q1=> ?_)
  ·have hlt:j+1<n:=by have q2:decide ((0:Int)<(n:Nat)-((j+1:Nat):Int))=true:=q1;simp at q2;omega
   refine aI (by show(List.replicate (j+1) ((0:Int),(0:Int))).length+1≤1073741824;rw[List.length_replicate];omega) ?_;refine bF (j+2) (by omega) ?_ ?_
   ·refine hd [(20001,30)] rfl (aI (aI hwr rfl) trivial) ⟨trivial,⟨⟨rfl,rfl⟩,⟨rfl,rfl⟩,⟨rfl,rfl⟩,rfl,rfl,trivial⟩,trivial,⟨rfl,rfl,⟨rfl,rfl⟩,trivial⟩,⟨rfl,pR _⟩,⟨rfl,nP⟩,⟨rfl,nP⟩,⟨rfl,nP⟩,⟨?_,nP⟩,trivial⟩;show List.replicate (j+1) ((0:Int),(0:Int))++[(0,0)]=List.replicate (j+1+1) (0,0);rw[List.replicate_succ' (n:=j+1)]
   ·show n-(j+2)<n-(j+1);omega
  ·have hn0:n=j+1:=by have q2:decide ((0:Int)<(n:Nat)-((j+1:Nat):Int))=false:=q1;simp at q2;omega
   refine aI (by show xs.length+1≤_;omega) ?_;refine aI (by kernel_rfl) ?_;refine fin [(10004,39)] (aI ?_ ?_)
   ·show IntKind.i64.wrap (((xs++[_]).length:Nat)-1)=((xs.length:Nat):Int)∧IntKind.i64=IntKind.i64;rw[qA,qJ,qO _ (by omega)];exact⟨by omega,rfl⟩
   ·refine⟨trivial,⟨rfl,rfl,⟨rfl,rfl⟩,trivial⟩,⟨?_,pR _⟩,⟨rfl,nP⟩,⟨rfl,nP⟩,trivial⟩;show xs++[(k,l,v,ds,List.replicate (j+1) (0,0))]=xs++[aX k l v ds n];unfold aX;rw[hn0]
theorem Oq:bI Tryz.prog 158=true:=by kernel_rfl
theorem Kj:bI Tryz.prog 169=true:=by kernel_rfl
theorem NT(x:aj):aJ Tryz.prog 169 [.rp aF x] (.int .i64 (nS x)):=by
 refine aJ.intro (nt:=14) aG mixed Kj Tryz.func169 rfl rfl rfl rfl rfl ?_;refine aI (fun q1=> ?_) (fun q1=> ?_)
 ·refine⟨?_,rfl⟩;unfold nS;rw[show(x.1==9)=true from q1];rfl
 ·refine⟨?_,rfl⟩;unfold nS;rw[show(x.1==9)=false from q1];rfl
theorem VD(xs:List aj)(us:List Value)(i:Int):aA Tryz.prog 169 [.ep 10000 5 i 0] [.row 10000 117 5 aF xs us] (.int .i64 (nS (ah xs i))) [.row 10000 117 5 aF xs us]:=
 aA.sU aG [0] Kj (NT (ah xs i)) rfl
theorem ZV(xs:List aj)(us:List Value)(x y:Int)(hA:bO xs)(h0:ak xs (0,0))(hl:xs.length≤900000)(hx:0≤x∧x<(xs.length:Nat))(h1:ak xs (y,1))(hk:(ah xs y).1=7∨(ah xs y).1=8)(h2:(ah xs y).1=7→ak xs (y,2))(h3:(ah xs y).1≠7→0<(ah xs y).2.2.2.1.length)(hdd:(ah xs y).2.2.2.1.length≤1000000)(hp:(ah xs y).2.2.2.2.length≤1000):
  aA Tryz.prog 158 [.ptr 10000 0,.int .i64 x,.int .i64 y] (tA xs us) (.tup []) (IV 10002 (bB xs x y) us):=by
 have hy:0≤y∧y<(xs.length:Nat):=⟨h1.1,h1.2.1⟩;refine aA.intro (nt:=64) aG mixed Oq Tryz.func158 rfl rfl rfl rfl rfl rfl ?_;refine aI hy ?_;refine Or.inr (eI _ (eI _ (aI (IC xs us y (by omega) (by omega)) ?_)));refine aI hx ?_;refine aI (fun q1=> ?_) (fun q1=> ?_)
 ·have q8:(ah xs y).1=8:=by have q2:((ah xs y).1==8)=true:=q1;simpa using q2
  have q7:(ah xs y).1≠7:=by omega
  refine aI ⟨by decide,by have:=h3 q7;show(0:Int)<((ah xs y).2.2.2.1.length:Nat);omega⟩ ?_;refine Or.inl (eI _ (aI (Kt _ _ _) ?_));refine Or.inr (eI _ (eI _ (aI (uJ xs us 6 0 (vJ (ah xs y).2.2.1 (jN (ah xs y).2.2.2.1 0) (ah xs x).2.2.1) 1 (by omega) (by omega)) ?_)));refine aI (by kernel_rfl) ?_;have hA1:=hA.add h0 6 0 (vJ (ah xs y).2.2.1 (jN (ah xs y).2.2.2.1 0) (ah xs x).2.2.1) [] 1;refine Or.inl (eI _ (aI (d9 y 1) ?_));refine Or.inl (eI _ (aI (d9 _ 0) ?_));refine Or.inr (eI _ (eI _ (aI (moveA _ us (y,1) ((xs.length:Nat),0) hA1 h1.app (ak.new (by decide) (by decide))) ?_)))
  refine fin [(10002,37)] (aI rfl ?_);refine⟨trivial,⟨rfl,trivial⟩,⟨?_,pR _⟩,trivial⟩;show _=bB xs x y;unfold bB;rw[show((ah xs y).1==7)=false by simpa using q7];rfl
 ·have q8:(ah xs y).1≠8:=by have q2:((ah xs y).1==8)=false:=q1;simpa using q2
  have q7:(ah xs y).1=7:=by omega
  refine Or.inr (eI _ (eI _ (aI (GH xs us 8 (ah xs y).2.1 (ah xs y).2.2.1 2 [(ah xs x).2.2.1] (by omega) (by omega) (by simp)) ?_)));have hA1:=hA.add h0 8 (ah xs y).2.1 (ah xs y).2.2.1 [(ah xs x).2.2.1] 2;refine Or.inl (eI _ (aI (d9 y 1) ?_));refine Or.inl (eI _ (aI (d9 _ 0) ?_));refine Or.inr (eI _ (eI _ (aI (moveA (xs++[aX 8 (ah xs y).2.1 (ah xs y).2.2.1 [(ah xs x).2.2.1] 2]) us (y,1) ((xs.length:Nat),0) hA1 h1.app (ak.new (by decide) (by decide))) ?_)));refine Or.inl (eI _ (aI (d9 y 2) ?_));refine Or.inl (eI _ (aI (d9 _ 1) ?_));refine Or.inr (eI _ (eI _ (aI (moveA _ us (y,2) ((xs.length:Nat),1) (hA1.move h1.app (ak.new (by decide) (by decide))) ((h2 q7).app.move) ((ak.new (by decide) (by decide)).move)) ?_)))
  refine fin [(10002,51)] (aI rfl ?_);refine⟨trivial,⟨rfl,trivial⟩,⟨?_,pR _⟩,trivial⟩;show _=bB xs x y;unfold bB;rw[show((ah xs y).1==7)=true by simpa using q7];rfl
theorem kr(xs:List aj)(us:List Value)(pk:Int)(tr:List Int)(x y:Int)(hA:bO xs)(h0:ak xs (0,0))(hl:xs.length≤900000)(hx:0≤x∧x<(xs.length:Nat))(h1:ak xs (y,1))(hk:(ah xs y).1=7∨(ah xs y).1=8)(h2:(ah xs y).1=7→ak xs (y,2))(h3:(ah xs y).1≠7→0<(ah xs y).2.2.2.1.length)(hdd:(ah xs y).2.2.2.1.length≤1000000)(hp:(ah xs y).2.2.2.2.length≤1000):
  aA Tryz.prog 158 [.ptr 10000 0,.int .i64 x,.int .i64 y] (tB xs us pk tr) (.tup []) (tBn 10003 (bB xs x y) us pk tr):=by
 have hy:0≤y∧y<(xs.length:Nat):=⟨h1.1,h1.2.1⟩;refine aA.intro (nt:=64) aG mixed Oq Tryz.func158 rfl rfl rfl rfl rfl rfl ?_;refine aI hy ?_;refine Or.inr (eI _ (eI _ (aI (IC xs us y (by omega) (by omega)) ?_)));refine aI hx ?_;refine aI (fun q1=> ?_) (fun q1=> ?_)
 ·have q8:(ah xs y).1=8:=by have q2:((ah xs y).1==8)=true:=q1;simpa using q2
  have q7:(ah xs y).1≠7:=by omega
  refine aI ⟨by decide,by have:=h3 q7;show(0:Int)<((ah xs y).2.2.2.1.length:Nat);omega⟩ ?_;refine Or.inl (eI _ (aI (Kt _ _ _) ?_));refine Or.inr (eI _ (eI _ (aI (U7 xs us pk tr 6 0 (vJ (ah xs y).2.2.1 (jN (ah xs y).2.2.2.1 0) (ah xs x).2.2.1) 1 (by omega) (by omega)) ?_)));refine aI (by kernel_rfl) ?_;have hA1:=hA.add h0 6 0 (vJ (ah xs y).2.2.1 (jN (ah xs y).2.2.2.1 0) (ah xs x).2.2.1) [] 1;refine Or.inl (eI _ (aI (d9 y 1) ?_));refine Or.inl (eI _ (aI (d9 _ 0) ?_));refine Or.inr (eI _ (eI _ (aI (moveB _ us pk tr (y,1) ((xs.length:Nat),0) hA1 h1.app (ak.new (by decide) (by decide))) ?_)))
  refine fin [(10003,37)] (aI rfl ?_);refine⟨trivial,⟨rfl,rfl,⟨rfl,rfl⟩,trivial⟩,⟨?_,pR _⟩,⟨rfl,nP⟩,trivial⟩;show _=bB xs x y;unfold bB;rw[show((ah xs y).1==7)=false by simpa using q7];rfl
 ·have q8:(ah xs y).1≠8:=by have q2:((ah xs y).1==8)=false:=q1;simpa using q2
  have q7:(ah xs y).1=7:=by omega
  refine Or.inr (eI _ (eI _ (aI (U8 xs us pk tr 8 (ah xs y).2.1 (ah xs y).2.2.1 2 [(ah xs x).2.2.1] (by omega) (by omega) (by simp)) ?_)));have hA1:=hA.add h0 8 (ah xs y).2.1 (ah xs y).2.2.1 [(ah xs x).2.2.1] 2;refine Or.inl (eI _ (aI (d9 y 1) ?_));refine Or.inl (eI _ (aI (d9 _ 0) ?_));refine Or.inr (eI _ (eI _ (aI (moveB (xs++[aX 8 (ah xs y).2.1 (ah xs y).2.2.1 [(ah xs x).2.2.1] 2]) us pk tr (y,1) ((xs.length:Nat),0) hA1 h1.app (ak.new (by decide) (by decide))) ?_)));refine Or.inl (eI _ (aI (d9 y 2) ?_));refine Or.inl (eI _ (aI (d9 _ 1) ?_))
  refine Or.inr (eI _ (eI _ (aI (moveB _ us pk tr (y,2) ((xs.length:Nat),1) (hA1.move h1.app (ak.new (by decide) (by decide))) ((h2 q7).app.move) ((ak.new (by decide) (by decide)).move)) ?_)));refine fin [(10003,51)] (aI rfl ?_);refine⟨trivial,⟨rfl,rfl,⟨rfl,rfl⟩,trivial⟩,⟨?_,pR _⟩,⟨rfl,nP⟩,trivial⟩;show _=bB xs x y;unfold bB;rw[show((ah xs y).1==7)=true by simpa using q7];rfl
theorem Vg(xs:List aj)(us:List Value)(x y:Int)(hA:bO xs)(h0:ak xs (0,0))(hl:xs.length≤900000)(hx:0≤x∧x<(xs.length:Nat))(hy1:ak xs (y,1))(h6:(ah xs y).1=11→(ah xs y).2.2.2.1.length=2)(hc:(ah xs y).1≠11→0≤(ah xs x).2.2.1∧(ah xs x).2.2.1<((ah xs y).2.2.2.1.length:Nat)∧(ah xs x).1=9)(hp:(ah xs x).2.2.2.2.length≤1000)(hp0:0<(ah xs x).2.2.2.2.length)(hdd:(ah xs y).2.2.2.1.length≤1000000)(hpy:(ah xs y).2.2.2.2.length≤1000):
  aA Tryz.prog 159 [.ptr 10000 0,.int .i64 x,.int .i64 y] (tA xs us) (.tup []) (IV 10002 (eY xs x y) us):=by
 have hy:0≤y∧y<(xs.length:Nat):=⟨hy1.1,hy1.2.1⟩;refine aA.intro (nt:=105) aG mixed (by kernel_rfl) Tryz.func159 rfl rfl rfl rfl rfl rfl ?_;refine aI hy ?_;refine Or.inr (eI _ (eI _ (aI (IC xs us y (by omega) (by omega)) ?_)));refine aI (fun q1=> ?_) (fun q1=> ?_)
 ·have q2:(ah xs y).1=11:=by have q2:((ah xs y).1==11)=true:=q1;simpa using q2
  have hl2:=h6 q2;refine aI ⟨by decide,by show(1:Int)<((ah xs y).2.2.2.1.length:Nat);omega⟩ ?_;refine aI hx ?_;refine aI (fun q3=> ?_) (fun q3=> ?_)
  ·have q4:((ah xs x).2.2.1==0)=false:=by have q4:((ah xs x).2.2.1 !=0)=true:=q3;simpa[bne]using q4
   refine aI ⟨by decide,by show(0:Int)<((ah xs y).2.2.2.1.length:Nat);omega⟩ ?_;refine Or.inr (eI _ (eI _ (aI (uJ xs us 12 (ah xs y).2.1 (jN (ah xs y).2.2.2.1 0) 1 (by omega) (by omega)) ?_)));have hA1:=hA.add h0 12 (ah xs y).2.1 (jN (ah xs y).2.2.2.1 0) [] 1;refine Or.inl (eI _ (aI (d9 y 1) ?_));refine Or.inl (eI _ (aI (d9 _ 0) ?_));refine Or.inr (eI _ (eI _ (aI (moveA _ us (y,1) ((xs.length:Nat),0) hA1 hy1.app (ak.new (by decide) (by decide))) ?_)));refine fin [(10002,45)] (aI rfl ?_);refine⟨trivial,⟨rfl,trivial⟩,⟨?_,pR _⟩,trivial⟩;show _=eY xs x y
   unfold eY;rw[show((ah xs y).1==11)=true from q1,q4];rfl
  ·have q4:((ah xs x).2.2.1==0)=true:=by have q4:((ah xs x).2.2.1 !=0)=false:=q3;simpa[bne]using q4
   refine Or.inr (eI _ (eI _ (aI (uJ xs us 12 (ah xs y).2.1 (jN (ah xs y).2.2.2.1 1) 1 (by omega) (by omega)) ?_)));have hA1:=hA.add h0 12 (ah xs y).2.1 (jN (ah xs y).2.2.2.1 1) [] 1;refine Or.inl (eI _ (aI (d9 y 1) ?_));refine Or.inl (eI _ (aI (d9 _ 0) ?_));refine Or.inr (eI _ (eI _ (aI (moveA _ us (y,1) ((xs.length:Nat),0) hA1 hy1.app (ak.new (by decide) (by decide))) ?_)));refine fin [(10002,45)] (aI rfl ?_);refine⟨trivial,⟨rfl,trivial⟩,⟨?_,pR _⟩,trivial⟩;show _=eY xs x y;unfold eY;rw[show((ah xs y).1==11)=true from q1,q4];rfl
 ·have q2:(ah xs y).1≠11:=by have q2:((ah xs y).1==11)=false:=q1;simpa using q2
  obtain⟨v0,v1,k9⟩:=hc q2
  have hf:nS (ah xs x)=((((ah xs x).2.2.2.2.length-1):Nat):Int):=by
   unfold nS;rw[show((ah xs x).1==9)=true by simpa using k9,qG,qO _ (by omega)];omega
  have hfe:=VD xs us x;rw[hf]at hfe;refine aI hx ?_;refine Or.inr (eI _ (eI _ (aI hfe ?_)));refine aI hx ?_;refine aI ⟨v0,v1⟩ ?_;refine Or.inr (eI _ (eI _ (aI (uJ xs us 12 (ah xs y).2.1 (jN (ah xs y).2.2.2.1 (ah xs x).2.2.1) 1 (by omega) (by omega)) ?_)));refine aI (by kernel_rfl) ?_;refine Or.inl (eI _ (aI (d9 _ 0) ?_));have h1A:bO (bG xs y (ah xs x).2.2.1):=hA.add h0 _ _ _ _ _;have h1l:(bG xs y (ah xs x).2.2.1).length=xs.length+1:=tK _ _ _;have h1R:ak (bG xs y (ah xs x).2.2.1) (iN (bG xs y (ah xs x).2.2.1).length 0):=by rw[h1l];exact ak.new (by decide) (by decide)
  have h1:∀{p},ak xs p→ak (bG xs y (ah xs x).2.2.1) p:=fun h=>h.app
  have hxi:∀i:Nat,i<((ah xs x).2.2.2.2.length-1)→ak (bG xs y (ah xs x).2.2.1) (x,((i+1:Nat):Int)):=fun i hi=>h1 ⟨hx.1,hx.2,by omega,by show((i+1:Nat):Int)<((ah xs x).2.2.2.2.length:Nat);omega⟩
  refine lp Nat (fun k=>[(12,.int .i64 ((k+1:Nat):Int))])
   (fun k=>[.dF 6 117 [.int .i64 (ah xs y).1,.int .i64 (ah xs y).2.1,.int .i64 (ah xs y).2.2.1,.sl 20,.sl 1000020],.dF 11 119 [.int .i64 (iN (xs.length+1) k).1,.int .i64 (iN (xs.length+1) k).2],.dF 10000 37 [.sl 20000],.row 20000 117 5 aF (sW (ah xs y).2.1 x (xs.length+1) (bG xs y (ah xs x).2.2.1) k) us]) (fun k=>((ah xs x).2.2.2.2.length-1)-k) (fun k=>k≤((ah xs x).2.2.2.2.length-1)) 0 (Nat.zero_le _) ?_ ?_
  ·exact hd [(20000,74)] rfl (aI (aI rfl rfl) trivial) ⟨trivial,⟨⟨rfl,rfl⟩,⟨rfl,rfl⟩,⟨rfl,rfl⟩,rfl,rfl,trivial⟩,trivial,⟨⟨rfl,rfl⟩,⟨rfl,rfl⟩,trivial⟩,trivial,⟨rfl,trivial⟩,⟨rfl,pR _⟩,trivial⟩
  intro k hk;have hcl:(sW (ah xs y).2.1 x (xs.length+1) (bG xs y (ah xs x).2.2.1) k).length=xs.length+1+k:=by rw[rZ,h1l]
  refine aI (fun q3=> ?_) (fun q3=> ?_)
  ·have hlt:k<((ah xs x).2.2.2.2.length-1):=by
    have q4:decide (((k+1:Nat):Int)≤((((ah xs x).2.2.2.2.length-1):Nat):Int))=true:=q3;simp only[qQ]at q4;omega
   have hadd:=uJ (sW (ah xs y).2.1 x (xs.length+1) (bG xs y (ah xs x).2.2.1) k) us 3 (ah xs y).2.1 0 3 (by rw[hcl];omega) (by omega);rw[hcl]at hadd;refine Or.inr (eI _ (eI _ (aI hadd ?_)))
   have hnew:∀s:Int,0≤s→s<3→ak ((sW (ah xs y).2.1 x (xs.length+1) (bG xs y (ah xs x).2.2.1) k)++[aX 3 (ah xs y).2.1 0 [] 3]) (((xs.length+1+k:Nat):Int),s):=fun s h0 h1=>by
    have:=wU (lv:=(ah xs y).2.1) (x:=x) (xs:=(bG xs y (ah xs x).2.2.1)) k h0 h1;rw[h1l]at this;exact this
   have hR:=yN (lv:=(ah xs y).2.1) (x:=x) h1R k;rw[h1l]at hR;have hAk:=yO (lv:=(ah xs y).2.1) (x:=x) h1A (h1 h0) h1R k fun i hi=>hxi i (by omega)
   rw[h1l]at hAk;refine Or.inl (eI _ (aI (d9 _ 0) ?_));refine Or.inr (eI _ (eI _ (aI (FV ((sW (ah xs y).2.1 x (xs.length+1) (bG xs y (ah xs x).2.2.1) k)++[aX 3 (ah xs y).2.1 0 [] 3]) us (iN (xs.length+1) k) (((xs.length+1+k:Nat):Int),0) hR.app (hnew 0 (by decide) (by decide))) ?_)));refine aI (by kernel_rfl) ?_;refine Or.inl (eI _ (aI (d9 x _) ?_));refine Or.inl (eI _ (aI (d9 _ 1) ?_));refine Or.inr (eI _ (eI _ (aI (moveA (bE ((sW (ah xs y).2.1 x (xs.length+1) (bG xs y (ah xs x).2.2.1) k)++[aX 3 (ah xs y).2.1 0 [] 3]) (iN (xs.length+1) k) (((xs.length+1+k:Nat):Int),0)) us (x,((k+1:Nat):Int)) (((xs.length+1+k:Nat):Int),1) ((hAk.add (qj (h1 h0) k) _ _ _ _ _).link hR.app (hnew 0 (by decide) (by decide))) (qj (hxi k hlt) k).app.link (hnew 1 (by decide) (by decide)).link) ?_)))
   refine Or.inl (eI _ (aI (d9 _ 2) ?_));refine bF (k+1) (by omega) ?_ ?_
   ·exact hd [(20000,85)] rfl (aI (aI (dH (by omega)) rfl) trivial) ⟨trivial,⟨⟨rfl,rfl⟩,⟨rfl,rfl⟩,⟨rfl,rfl⟩,rfl,rfl,trivial⟩,trivial,⟨⟨rfl,rfl⟩,⟨rfl,rfl⟩,trivial⟩,trivial,⟨rfl,trivial⟩,⟨rfl,pR _⟩,trivial⟩
   ·show((ah xs x).2.2.2.2.length-1)-(k+1)<((ah xs x).2.2.2.2.length-1)-k;omega
  ·have hke:k=((ah xs x).2.2.2.2.length-1):=by
    have q4:decide (((k+1:Nat):Int)≤((((ah xs x).2.2.2.2.length-1):Nat):Int))=false:=q3;simp only[qP]at q4;omega
   have hR:=yN (lv:=(ah xs y).2.1) (x:=x) h1R k;rw[h1l]at hR;have hAk:=yO (lv:=(ah xs y).2.1) (x:=x) h1A (h1 h0) h1R k fun i hi=>hxi i (by omega)
   rw[h1l]at hAk;refine Or.inl (eI _ (aI (d9 y 1) ?_));refine Or.inr (eI _ (eI _ (aI (moveA (sW (ah xs y).2.1 x (xs.length+1) (bG xs y (ah xs x).2.2.1) k) us (y,1) (iN (xs.length+1) k) hAk (qj (h1 hy1) k) hR) ?_)));refine aI (by kernel_rfl) ?_;refine fin [(10002,20000)] (aI rfl ?_);refine⟨trivial,⟨rfl,trivial⟩,⟨?_,pR _⟩,trivial⟩;show bX (sW (ah xs y).2.1 x (xs.length+1) (bG xs y (ah xs x).2.2.1) k) (y,1) (iN (xs.length+1) k)=eY xs x y;unfold eY;rw[show((ah xs y).1==11)=false from q1,hke];rfl
theorem Ke:bI Tryz.prog 124=true:=by kernel_rfl
theorem Q9(x y:aj):aJ Tryz.prog 124 [.rp aF x,.rp aF y] (.int .i64 (aS x y)):=by
 refine aJ.intro (nt:=70) aG mixed Ke Tryz.func124 rfl rfl rfl rfl rfl ?_;refine aI (by kernel_rfl) ?_;refine aI (fun q1=> ?_) (fun q1=> ?_)
 ·refine⟨?_,rfl⟩;unfold aS;rw[show eZ x y=true from q1];rfl
 refine aI (by kernel_rfl) ?_;refine aI (fun q2=> ?_) (fun q2=> ?_)
 ·refine⟨?_,rfl⟩;unfold aS;rw[show eZ x y=false from q1,show jH x y=true from q2];rfl
 refine Or.inl (eI _ (aI (Mt _ _ _ _) ?_));refine aI (by kernel_rfl) ?_;refine⟨?_,rfl⟩;unfold aS;rw[show eZ x y=false from q1,show jH x y=false from q2];rfl
theorem Ls(xs:List aj)(us:List Value)(i j:Int):aA Tryz.prog 124 [.ep 10000 5 i 0,.ep 10000 5 j 0] [.row 10000 117 5 aF xs us] (.int .i64 (aS (ah xs i) (ah xs j))) [.row 10000 117 5 aF xs us]:=
 aA.sU aG [0,0] Ke (Q9 (ah xs i) (ah xs j)) rfl
theorem Kk:bI Tryz.prog 153=true:=by kernel_rfl
theorem RL(xs:List aj)(a b:Int)(ha:0≤a∧a<(xs.length:Nat))(hb:0≤b∧b<(xs.length:Nat)):aJ Tryz.prog 153 [.rp aZ xs,.int .i64 a,.int .i64 b] (.tup [.int .i64 (au xs a b).1,.int .i64 (au xs a b).2]):=by
 refine aJ.intro (nt:=44) aG mixed Kk Tryz.func153 rfl rfl rfl rfl rfl ?_;refine aI ha ?_;refine aI hb ?_;refine Or.inl (eI _ (aI (RJ _ _ _ _) ?_));refine aI (by kernel_rfl) ?_;refine aI (fun q1=> ?_) (fun q1=> ?_)
 ·have e:au xs a b=(b,a):=by unfold au;rw[show(aQ (ah xs a).1 (ah xs a).2.1 (ah xs b).1 (ah xs b).2.1==2)=true from q1];rfl
  rw[e];exact rfl
 ·have e:au xs a b=(a,b):=by unfold au;rw[show(aQ (ah xs a).1 (ah xs a).2.1 (ah xs b).1 (ah xs b).2.1==2)=false from q1];rfl
  rw[e];exact rfl
theorem maxS(a b:Int):aJ Tryz.prog 71 [.int .i64 a,.int .i64 b] (.int .i64 (Io a b)):=by
 refine aJ.intro (nt:=10) aG mixed (by kernel_rfl) Tryz.func71 rfl rfl rfl rfl rfl ?_;refine aI (fun q1=> ?_) (fun q1=> ?_)
 ·refine⟨?_,rfl⟩;unfold Io;rw[show decide (b<a)=true from q1];rfl
 ·refine⟨?_,rfl⟩;unfold Io;rw[show decide (b<a)=false from q1];rfl
theorem ZK(t:List aj)(hl:t.length≤2000000):aJ Tryz.prog 193 [.rp aZ t] (.int .i64 (lN t t.length)):=by
 refine aJ.intro (nt:=25) aG mixed (by kernel_rfl) Tryz.func193 rfl rfl rfl rfl rfl ?_;refine lp Nat (fun k=>[(4,.int .i64 (k:Nat)),(3,.int .i64 (lN t k))]) (fun _=>[]) (fun k=>t.length-k) (fun k=>k≤t.length) 0 (Nat.zero_le _) ?_ ?_
 ·exact hd [] rfl (aI (aI rfl rfl) (aI (aI rfl rfl) trivial)) trivial
 intro k hk;refine aI (fun q1=> ?_) (fun q1=> ?_)
 ·have hlt:k<t.length:=by simpa using q1
  refine aI (show 0≤((k:Nat):Int)∧((k:Nat):Int)<(t.length:Nat) by omega) ?_;refine Or.inl (eI _ (aI (maxS _ _) ?_));refine bF (k+1) hlt ?_ ?_
  ·exact hd [] rfl (aI (aI (dH (by omega)) rfl) (aI (aI rfl rfl) trivial)) trivial
  ·show t.length-(k+1)<t.length-k;omega
 ·have hge:t.length≤k:=by simpa using q1
  have hke:k=t.length:=by omega
  subst hke;exact⟨rfl,rfl⟩
theorem Mk:bI Tryz.prog 141=true:=by kernel_rfl
theorem Xg(t:List aj)(hl:t.length≤1000000):aJ Tryz.prog 141 [.rp aZ t] (.int .i64 (eU t t.length:Nat)):=by
 refine aJ.intro (nt:=26) aG mixed Mk Tryz.func141 rfl rfl rfl rfl rfl ?_;refine lp Nat (fun k=>[(4,.int .i64 (k:Nat)),(3,.int .i64 (eU t k:Nat))]) (fun _=>[]) (fun k=>t.length-k) (fun k=>k≤t.length) 0 (Nat.zero_le _) ?_ ?_
 ·exact hd [] rfl (aI (aI rfl rfl) (aI (aI rfl rfl) trivial)) trivial
 intro k hk;refine aI (fun q1=> ?_) (fun q1=> ?_)
 ·have hlt:k<t.length:=by simpa using q1
  have hle:=FX t k;refine aI (show 0≤((k:Nat):Int)∧((k:Nat):Int)<(t.length:Nat) by omega) ?_;refine aI (fun q2=> ?_) (fun q2=> ?_)
  ·refine bF (k+1) hlt ?_ ?_
   ·refine hd [] rfl (aI (aI (dH (by omega)) rfl) (aI (aI ?_ rfl) trivial)) trivial;show IntKind.i64.wrap ((eU t k:Nat)+1)=((eU t (k+1):Nat):Int);rw[dH (by omega)];rw[show eU t (k+1)=(bif (ah t (k:Nat)).1 !=0 then eU t k+1 else eU t k) from rfl,show((ah t (k:Nat)).1 !=0)=true from q2];rfl
   ·show t.length-(k+1)<t.length-k;omega
  ·refine bF (k+1) hlt ?_ ?_
   ·refine hd [] rfl (aI (aI (dH (by omega)) rfl) (aI (aI ?_ rfl) trivial)) trivial;show((eU t k:Nat):Int)=((eU t (k+1):Nat):Int);rw[show eU t (k+1)=(bif (ah t (k:Nat)).1 !=0 then eU t k+1 else eU t k) from rfl,show((ah t (k:Nat)).1 !=0)=false from q2];rfl
   ·show t.length-(k+1)<t.length-k;omega
 ·have hge:t.length≤k:=by simpa using q1
  have hke:k=t.length:=by omega
  subst hke;exact⟨rfl,rfl⟩
theorem RY{p lo hi d:Int}(h:fA p lo hi=true):ow p lo hi d=(IntKind.i64.wrap (p+d),0):=by
 obtain⟨h1,h2⟩:=iw h;unfold ow;rw[show decide (p<lo)=false by simpa using h1,show decide (hi<p)=false by simpa using h2];rfl
theorem RZ{p lo hi d:Int}(h:fA p lo hi=false):ow p lo hi d=(0,2):=by
 rcases Xd h with h1|h1
 ·unfold ow;rw[show decide (p<lo)=true by simpa using h1];rfl
 ·unfold ow;rw[show decide (hi<p)=true by simpa using h1];cases decide (p<lo)<;>rfl
theorem za(c p:Int):aJ Tryz.prog 194 [.int .i64 c,.int .i64 p] (.tup [.int .i64 (dA c p).1,.int .i64 (dA c p).2]):=by
 have leafT:∀{lo hi d v:Int},dA c p=ow p lo hi d→(fA p lo hi=true→v=IntKind.i64.wrap (p+d))→∀q:(!(fA p lo hi))=false,(SV.tup [.int .i64 v,.int .i64 0]:SV)=.tup [.int .i64 (dA c p).1,.int .i64 (dA c p).2]:=fun {lo hi d v} e hv q=>by
  have h:fA p lo hi=true:=by simpa using q
  rw[e,RY h,hv h]
 have leafF:∀{lo hi d:Int},dA c p=ow p lo hi d→∀q:(!(fA p lo hi))=true,(SV.tup [.int .i64 0,.int .i64 2]:SV)=.tup [.int .i64 (dA c p).1,.int .i64 (dA c p).2]:=fun {lo hi d} e q=>by
  have h:fA p lo hi=false:=by simpa using q
  rw[e,RZ h]
 refine aJ.intro (nt:=36) aG mixed (by kernel_rfl) Tryz.func194 rfl rfl rfl rfl rfl ?_;refine aI (fun q1=> ?_) (fun q1=> ?_)
 ·refine aI (fun _=> ?_) (fun h=>by rw[show(c==1)=true from q1]at h;cases h);refine Or.inl (eI _ (aI (Bg _ _ _) ?_));refine aI (fun q=> ?_) (fun q=> ?_)
  ·exact leafF (lo:=0) (hi:=0) (d:= -2) (by simp only[dA,q1,qG,qH]) q
  ·exact leafT (lo:=0) (hi:=0) (d:= -2) (by simp only[dA,q1,qG,qH]) (fun h=>by obtain⟨h1,h2⟩:=iw h;have e0:p=0:=(by omega);subst e0;rfl) q
 refine aI (fun q2=> ?_) (fun q2=> ?_)
 ·refine Or.inl (eI _ (aI (Bg _ _ _) ?_));refine aI (fun q=> ?_) (fun q=> ?_)
  ·exact leafF (lo:=0) (hi:=0) (d:= -2) (by simp only[dA,q1,q2,qG,qH]) q
  ·exact leafT (lo:=0) (hi:=0) (d:= -2) (by simp only[dA,q1,q2,qG,qH]) (fun h=>by obtain⟨h1,h2⟩:=iw h;have e0:p=0:=(by omega);subst e0;rfl) q
 refine aI (fun q3=> ?_) (fun q3=> ?_)
 ·refine Or.inl (eI _ (aI (Bg _ _ _) ?_));refine aI (fun q=> ?_) (fun q=> ?_)
  ·exact leafF (lo:=0) (hi:=3) (d:=0) (by simp only[dA,q1,q2,q3,qG,qH]) q
  ·exact leafT (lo:=0) (hi:=3) (d:=0) (by simp only[dA,q1,q2,q3,qG,qH]) (fun h=>by obtain⟨h1,h2⟩:=iw h;rw[qO _ (by omega)];omega) q
 refine aI (fun q4=> ?_) (fun q4=> ?_)
 ·refine Or.inl (eI _ (aI (Bg _ _ _) ?_));refine aI (fun q=> ?_) (fun q=> ?_)
  ·exact leafF (lo:=0) (hi:=3) (d:= -2) (by simp only[dA,q1,q2,q3,q4,qG,qH]) q
  ·exact leafT (lo:=0) (hi:=3) (d:= -2) (by simp only[dA,q1,q2,q3,q4,qG,qH]) (fun _=>rfl) q
 refine aI (fun q5=> ?_) (fun q5=> ?_)
 ·refine Or.inl (eI _ (aI (Bg _ _ _) ?_));refine aI (fun q=> ?_) (fun q=> ?_)
  ·exact leafF (lo:=0) (hi:=0) (d:= -1) (by simp only[dA,q1,q2,q3,q4,q5,qG,qH]) q
  ·exact leafT (lo:=0) (hi:=0) (d:= -1) (by simp only[dA,q1,q2,q3,q4,q5,qG,qH]) (fun h=>by obtain⟨h1,h2⟩:=iw h;have e0:p=0:=(by omega);subst e0;rfl) q
 refine aI (fun q6=> ?_) (fun q6=> ?_)
 ·refine Or.inl (eI _ (aI (Bg _ _ _) ?_));refine aI (fun q=> ?_) (fun q=> ?_)
  ·exact leafF (lo:=0) (hi:=3) (d:= -1) (by simp only[dA,q1,q2,q3,q4,q5,q6,qG,qH]) q
  ·exact leafT (lo:=0) (hi:=3) (d:= -1) (by simp only[dA,q1,q2,q3,q4,q5,q6,qG,qH]) (fun _=>rfl) q
 refine aI (fun q7=> ?_) (fun q7=> ?_)
 ·refine Or.inl (eI _ (aI (Bg _ _ _) ?_));refine aI (fun q=> ?_) (fun q=> ?_)
  ·exact leafF (lo:=2) (hi:=600) (d:= -2) (by simp only[dA,q1,q2,q3,q4,q5,q6,q7,qG,qH]) q
  ·exact leafT (lo:=2) (hi:=600) (d:= -2) (by simp only[dA,q1,q2,q3,q4,q5,q6,q7,qG,qH]) (fun _=>rfl) q
 ·have e:dA c p=(0,2):=by simp only[dA,q1,q2,q3,q4,q5,q6,q7,qG,qH]
  rw[e];exact rfl
theorem dupA(xs:List aj)(us:List Value)(x y:Int)(hA:bO xs)(h0:ak xs (0,0))(hl:xs.length≤900000)(hx1:ak xs (x,1))(hx2:ak xs (x,2))(hy:0≤y∧y<(xs.length:Nat))(hp:(ah xs y).2.2.2.2.length≤1000)(hdt:(ah xs y).2.2.2.1.length≤1000000)(hp0:0<(ah xs y).2.2.2.2.length):
  aA Tryz.prog 155 [.ptr 10000 0,.int .i64 x,.int .i64 y] (tA xs us) (.tup []) (IV 10002 (bM xs x y) us):=by
 have hx:0≤x∧x<(xs.length:Nat):=⟨hx1.1,hx1.2.1⟩;refine aA.intro (nt:=102) aG mixed (by kernel_rfl) Tryz.func155 rfl rfl rfl rfl rfl rfl ?_;refine aI hx ?_;refine aI hy ?_;refine Or.inr (eI _ (eI _ (aI (IC xs us y (by omega) (by omega)) ?_)));refine Or.inr (eI _ (eI _ (aI (GH xs us (ah xs y).1 (ah xs y).2.1 (ah xs y).2.2.1 (ah xs y).2.2.2.2.length (ah xs y).2.2.2.1 (by omega) (by omega) (by omega)) ?_)));have hadd2:=GH (xs++[lg xs y]) us (ah xs y).1 (ah xs y).2.1 (ah xs y).2.2.1 (ah xs y).2.2.2.2.length (ah xs y).2.2.2.1 (by rw[qA,qJ];omega) (by omega) (by omega)
 rw[show(xs++[lg xs y]).length=xs.length+1 by simp]at hadd2;refine Or.inr (eI _ (eI _ (aI hadd2 ?_)));have h2A:=yT (y:=y) hA h0
 have hFS:∀k,(bH (ah xs x).2.1 ((xs.length:Nat):Int) ((xs.length+1:Nat):Int) (dup2 xs y) k)=bV x ((xs.length:Nat):Int) ((xs.length+1:Nat):Int) (dup2 xs y) k:=fun k=>by
  have h:=(lX (x:=x) (c:=((xs.length:Nat):Int)) (d:=((xs.length+1:Nat):Int)) (xs:=dup2 xs y) (by rw[iF];omega) k).1;have e:(ah (dup2 xs y) x).2.1=(ah xs x).2.1:=by unfold dup2;rw[qF,bZ (by omega)]
  rw[e]at h;exact h
 have hcd:∀i:Nat,i≤((ah xs y).2.2.2.2.length-1)→ak (dup2 xs y) (((xs.length:Nat):Int),(i:Nat))∧ak (dup2 xs y) (((xs.length+1:Nat):Int),(i:Nat)):=fun i hi=>⟨uO (by omega) (by omega),uP (by omega) (by omega)⟩
 refine lp Nat (fun k=>[(11,.int .i64 ((k+1:Nat):Int))]) (fun k=>[.dF 10000 37 [.sl 20000],.row 20000 117 5 aF (bH (ah xs x).2.1 ((xs.length:Nat):Int) ((xs.length+1:Nat):Int) (dup2 xs y) k) us]) (fun k=>((ah xs y).2.2.2.2.length-1)-k) (fun k=>k≤((ah xs y).2.2.2.2.length-1)) 0 (Nat.zero_le _) ?_ ?_
 ·exact hd [(20000,53)] rfl (aI (aI rfl rfl) trivial) ⟨trivial,⟨rfl,trivial⟩,⟨rfl,pR _⟩,trivial⟩
 intro k hk;have hcl:(bH (ah xs x).2.1 ((xs.length:Nat):Int) ((xs.length+1:Nat):Int) (dup2 xs y) k).length=xs.length+2+k:=by rw[hFS,jh,iF]
 refine aI (fun q1=> ?_) (fun q1=> ?_)
 ·have q2:((k+1:Nat):Int)<((ah xs y).2.2.2.2.length:Nat):=by have q2:decide (((k+1:Nat):Int)<((ah xs y).2.2.2.2.length:Nat))=true:=q1;simpa using q2
  refine Or.inr (eI _ (eI _ (aI (uJ (bH (ah xs x).2.1 ((xs.length:Nat):Int) ((xs.length+1:Nat):Int) (dup2 xs y) k) us 4 (ah xs x).2.1 0 3 (by rw[hcl];omega) (by omega)) ?_)));have hc:=hcd (k+1) (by omega);have hin:∀{p},ak (dup2 xs y) p→ak (bH (ah xs x).2.1 ((xs.length:Nat):Int) ((xs.length+1:Nat):Int) (dup2 xs y) k) p:=fun h=>by rw[hFS];exact dx h k
  refine Or.inl (eI _ (aI (d9 _ 1) ?_));refine Or.inl (eI _ (aI (d9 _ _) ?_));refine Or.inr (eI _ (eI _ (aI (FV ((bH (ah xs x).2.1 ((xs.length:Nat):Int) ((xs.length+1:Nat):Int) (dup2 xs y) k)++[aX 4 (ah xs x).2.1 0 [] 3]) us (((bH (ah xs x).2.1 ((xs.length:Nat):Int) ((xs.length+1:Nat):Int) (dup2 xs y) k).length:Nat),1) (((xs.length:Nat):Int),((k+1:Nat):Int)) (ak.new (by decide) (by decide)) (hin hc.1).app) ?_)));refine Or.inl (eI _ (aI (d9 _ 2) ?_));refine Or.inl (eI _ (aI (d9 _ _) ?_));refine Or.inr (eI _ (eI _ (aI (FV (bE ((bH (ah xs x).2.1 ((xs.length:Nat):Int) ((xs.length+1:Nat):Int) (dup2 xs y) k)++[aX 4 (ah xs x).2.1 0 [] 3]) (((bH (ah xs x).2.1 ((xs.length:Nat):Int) ((xs.length+1:Nat):Int) (dup2 xs y) k).length:Nat),1) (((xs.length:Nat):Int),((k+1:Nat):Int))) us (((bH (ah xs x).2.1 ((xs.length:Nat):Int) ((xs.length+1:Nat):Int) (dup2 xs y) k).length:Nat),2) (((xs.length+1:Nat):Int),((k+1:Nat):Int)) (ak.link (ak.new (by decide) (by decide))) (hin hc.2).app.link) ?_)))
  refine bF (k+1) (by omega) ?_ ?_
  ·exact hd [(20000,61)] rfl (aI (aI (dH (by omega)) rfl) trivial) ⟨trivial,⟨rfl,trivial⟩,⟨rfl,pR _⟩,trivial⟩
  ·show((ah xs y).2.2.2.2.length-1)-(k+1)<((ah xs y).2.2.2.2.length-1)-k;omega
 ·have q2:((ah xs y).2.2.2.2.length:Nat)≤((k+1:Nat):Int):=by have q2:decide (((k+1:Nat):Int)<((ah xs y).2.2.2.2.length:Nat))=false:=q1;simpa using q2
  have hke:k=((ah xs y).2.2.2.2.length-1):=by omega
  subst hke;have hd3:(bH (ah xs x).2.1 ((xs.length:Nat):Int) ((xs.length+1:Nat):Int) (dup2 xs y) ((ah xs y).2.2.2.2.length-1))=dup3 xs x y:=hFS _;have h3A:bO (dup3 xs x y):=nZ h2A (o8 h0) _ hcd;have h3:∀{p},ak xs p→ak (dup3 xs x y) p:=fun h=>dx (o8 h) _
  have hc0:ak (dup3 xs x y) (((xs.length:Nat):Int),0):=dx (uO (by decide) (by omega)) _;have hd0:ak (dup3 xs x y) (((xs.length+1:Nat):Int),0):=dx (uP (by decide) (by omega)) _;have hm1:=moveA (dup3 xs x y) us (x,1) ((xs.length:Nat),0) h3A (h3 hx1) hc0;rw[←hd3]at hm1;refine Or.inl (eI _ (aI (d9 x 1) ?_));refine Or.inl (eI _ (aI (d9 _ 0) ?_));refine Or.inr (eI _ (eI _ (aI hm1 ?_)));have hm2:=moveA (bX (dup3 xs x y) (x,1) ((xs.length:Nat),0)) us (x,2) (((xs.length+1:Nat):Int),0) (h3A.move (h3 hx1) hc0) (h3 hx2).move hd0.move
  rw[←hd3]at hm2;refine Or.inl (eI _ (aI (d9 x 2) ?_));refine Or.inl (eI _ (aI (d9 _ 0) ?_));refine Or.inr (eI _ (eI _ (aI hm2 ?_)));have h4A:bO (mH xs x y):=(h3A.move (h3 hx1) hc0).move (h3 hx2).move hd0.move
  have hyi:∀i:Nat,i<((ah xs y).2.2.2.2.length-1)→ak (mH xs x y) (y,((i:Nat):Int)+1)∧ak (mH xs x y) (((xs.length+2+i:Nat):Int),0):=fun i hi=>by
   refine⟨(h3 ⟨hy.1,hy.2,by omega,?_⟩).move.move,?_⟩
   ·show((i:Nat):Int)+1<((ah xs y).2.2.2.2.length:Nat);omega
   ·have:=(tL (x:=x) (c:=((xs.length:Nat):Int)) (d:=((xs.length+1:Nat):Int)) (xs:=dup2 xs y) hi).move (p:=(x,1)) (q:=(((xs.length:Nat):Int),0));have:=this.move (p:=(x,2)) (q:=(((xs.length+1:Nat):Int),0));rw[iF]at this;exact this
  refine lp Nat (fun k=>[(13,.int .i64 ((k+1:Nat):Int))]) (fun k=>[.dF 10000 37 [.sl 20000],.row 20000 117 5 aF (cB y (xs.length+2) (mH xs x y) k) us]) (fun k=>((ah xs y).2.2.2.2.length-1)-k) (fun k=>k≤((ah xs y).2.2.2.2.length-1)) 0 (Nat.zero_le _) ?_ ?_
  ·refine hd [] rfl (aI (aI rfl rfl) trivial) ⟨trivial,⟨rfl,trivial⟩,⟨?_,pR _⟩,trivial⟩;show bX (bX (bH (ah xs x).2.1 ((xs.length:Nat):Int) ((xs.length+1:Nat):Int) (dup2 xs y) ((ah xs y).2.2.2.2.length-1)) (x,1) ((xs.length:Nat),0)) (x,2) (((xs.length+1:Nat):Int),0)=mH xs x y;rw[hd3];rfl
  intro k hk;refine aI (fun q1=> ?_) (fun q1=> ?_)
  ·have q2:((k+1:Nat):Int)<((ah xs y).2.2.2.2.length:Nat):=by have q2:decide (((k+1:Nat):Int)<((ah xs y).2.2.2.2.length:Nat))=true:=q1;simpa using q2
   have hyk:=hyi k (by omega);have hrp:=moveA (cB y (xs.length+2) (mH xs x y) k) us (y,((k:Nat):Int)+1) (((xs.length+2+k:Nat):Int),0) (mQ h4A k fun i hi=>hyi i (by omega)) (fM hyk.1 k) (fM hyk.2 k);have e1:((k:Nat):Int)+1=((k+1:Nat):Int):=by omega
   have e2:((xs.length+2+k:Nat):Int)=IntKind.i64.wrap (((xs.length+1:Nat):Int)+((k+1:Nat):Int)):=by rw[qO _ (by omega)];omega
   rw[e1,e2]at hrp;refine Or.inl (eI _ (aI (d9 y _) ?_));refine Or.inl (eI _ (aI (d9 _ 0) ?_));refine Or.inr (eI _ (eI _ (aI hrp ?_)));refine bF (k+1) (by omega) ?_ ?_
   ·refine hd [] rfl (aI (aI (dH (by omega)) rfl) trivial) ⟨trivial,⟨rfl,trivial⟩,⟨?_,pR _⟩,trivial⟩;show bX (cB y (xs.length+2) (mH xs x y) k) (y,((k+1:Nat):Int)) (IntKind.i64.wrap (((xs.length+1:Nat):Int)+((k+1:Nat):Int)),0)=cB y (xs.length+2) (mH xs x y) (k+1);rw[←e2,←e1];rfl
   ·show((ah xs y).2.2.2.2.length-1)-(k+1)<((ah xs y).2.2.2.2.length-1)-k;omega
  ·have q2:((ah xs y).2.2.2.2.length:Nat)≤((k+1:Nat):Int):=by have q2:decide (((k+1:Nat):Int)<((ah xs y).2.2.2.2.length:Nat))=false:=q1;simpa using q2
   have hke:k=((ah xs y).2.2.2.2.length-1):=by omega
   refine fin [(10002,20000)] (aI rfl ?_);refine⟨trivial,⟨rfl,trivial⟩,⟨?_,pR _⟩,trivial⟩;show cB y (xs.length+2) (mH xs x y) k=bM xs x y;rw[hke];rfl
theorem expA(t:List aj)(xs:List aj)(us:List Value)(x y:Int)(lv:Int)(hlv0:(ah xs x).2.1=lv)(hx:0≤x∧x<(xs.length:Nat))(hl:xs.length≤900000)(hs:dO t)(ht:1≤t.length)(htl:t.length≤1000)(ht0:0<(ah t 0).2.2.2.2.length)(hlv1:0≤lv∧lv≤8)(hlt8:∀i:Nat,0≤(ah t i).2.1∧(ah t i).2.1≤8)
  (hpt:∀i j:Nat,zN (elt (dflt bf) (ah t (i:Nat)).2.2.2.2 (j:Nat)).1) (hy:ak xs (y,0)) (htop:ak (xs++om lv ((xs.length:Nat)-1:Int) t (t.length-1)) (((xs.length:Nat)-1:Int)+(ay t (0,0)).1,(ay t (0,0)).2)):
  aA Tryz.prog 160 [.rp aZ t,.ptr 10000 0,.int .i64 x,.int .i64 y] (tA xs us) (.tup []) (IV 10002 (iG t lv xs y) us):=by
 subst hlv0;refine aA.intro (nt:=99) aG mixed (by kernel_rfl) Tryz.func160 rfl rfl rfl rfl rfl rfl ?_;refine aI hx ?_;have hwb:IntKind.i64.wrap ((xs.length:Nat)-1)=((xs.length:Nat)-1:Int):=qO _ (by omega);generalize hlve:(ah xs x).2.1=lv at*;refine lp Nat (fun k=>[(10,.int .i64 ((k+1:Nat):Int)),(8,.int .i64 lv),(9,.int .i64 ((xs.length:Nat)-1:Int))]) (fun k=>[.dF 10000 37 [.sl 20000],.row 20000 117 5 aF (xs++om lv ((xs.length:Nat)-1:Int) t k) us]) (fun k=>t.length-1-k) (fun k=>k+1≤t.length) 0 ht ?_ ?_
 ·refine hd [(20000,10001)] rfl (aI (aI rfl rfl) (aI (aI hlve rfl) (aI (aI hwb rfl) trivial))) ⟨trivial,⟨rfl,trivial⟩,⟨?_,pR _⟩,trivial⟩;show xs=(xs++om lv ((xs.length:Nat)-1:Int) t 0);unfold om;simp
 intro k hk;refine aI (fun q1=> ?_) (fun q1=> ?_)
 ·have hlt:k+1<t.length:=by
   have q2:decide (((k+1:Nat):Int)<(t.length:Nat))=true:=q1;have q3:((k+1:Nat):Int)<(t.length:Nat):=by simpa using q2
   omega
  refine aI (show 0≤((k+1:Nat):Int)∧((k+1:Nat):Int)<(t.length:Nat) by omega) ?_;refine Or.inr (eI _ (eI _ (aI (Ms (ah t ((k+1:Nat):Int)) (hs.2 (k+1)).1 (hs.2 (k+1)).2) ?_)));refine Or.inl (eI _ (aI (Ib _) ?_));have hl8:=hlt8 (k+1);refine aI (fun q2=> ?_) (fun q2=> ?_)
  ·have hlev:bY (ah t ((k+1:Nat):Int)).1=true:=q2;refine lp Nat (fun j=>[(12,.int .i64 (j:Nat))]) (fun j=>[.dF 11 117 [.int .i64 (ah t ((k+1:Nat):Int)).1,.int .i64 (IntKind.i64.wrap ((ah t ((k+1:Nat):Int)).2.1+lv)),.int .i64 (ah t ((k+1:Nat):Int)).2.2.1,.sl 43,.sl 21001],.dF 10000 37 [.sl 21000],.row 21000 117 5 aF (xs++om lv ((xs.length:Nat)-1:Int) t k) us,.row 43 2 1 (.int .i64) (ah t ((k+1:Nat):Int)).2.2.2.1 [],.row 21001 119 2 bf (gW ((xs.length:Nat)-1:Int) (ah t ((k+1:Nat):Int)).2.2.2.2 j) []]) (fun j=>(ah t ((k+1:Nat):Int)).2.2.2.2.length-j) (fun j=>j≤(ah t ((k+1:Nat):Int)).2.2.2.2.length) 0 (Nat.zero_le _) ?_ ?_
   ·exact hd [(21000,20000),(21001,1000043)] rfl (aI (aI rfl rfl) trivial) ⟨trivial,⟨⟨rfl,rfl⟩,⟨rfl,rfl⟩,⟨rfl,rfl⟩,rfl,rfl,trivial⟩,trivial,⟨rfl,trivial⟩,⟨rfl,pR _⟩,⟨rfl,nP⟩,⟨rfl,nP⟩,trivial⟩
   intro j hj;refine aI (fun q3=> ?_) (fun q3=> ?_)
   ·have hlt2:j<(ah t ((k+1:Nat):Int)).2.2.2.2.length:=by
     have q4:decide (((j:Nat):Int)<((gW ((xs.length:Nat)-1:Int) (ah t ((k+1:Nat):Int)).2.2.2.2 j).length:Nat))=true:=q3;rw[pW]at q4;simpa using q4
    have hpv:zN (elt (dflt bf) (ah t ((k+1:Nat):Int)).2.2.2.2 (j:Nat)).1:=hpt (k+1) j;unfold zN at hpv;have hps:(ah t ((k+1:Nat):Int)).2.2.2.2.length≤1048576:=(hs.2 (k+1)).2;have hat:elt (dflt bf) (gW ((xs.length:Nat)-1:Int) (ah t ((k+1:Nat):Int)).2.2.2.2 j) (j:Nat)=elt (dflt bf) (ah t ((k+1:Nat):Int)).2.2.2.2 (j:Nat):=zl hlt2;have hw:IntKind.i64.wrap ((elt (dflt bf) (ah t ((k+1:Nat):Int)).2.2.2.2 (j:Nat)).1+((xs.length:Nat)-1:Int))=(elt (dflt bf) (ah t ((k+1:Nat):Int)).2.2.2.2 (j:Nat)).1+((xs.length:Nat)-1:Int):=qO _ (by omega)
    have hbnd:0≤((j:Nat):Int)∧((j:Nat):Int)<((gW ((xs.length:Nat)-1:Int) (ah t ((k+1:Nat):Int)).2.2.2.2 j).length:Nat):=by rw[pW];omega
    refine aI hbnd ?_;refine aI hbnd ?_;refine bF (j+1) hlt2 ?_ ?_
    ·refine hd [] rfl (aI (aI (dH (by omega)) rfl) trivial) ⟨trivial,⟨⟨rfl,rfl⟩,⟨rfl,rfl⟩,⟨rfl,rfl⟩,rfl,rfl,trivial⟩,trivial,⟨rfl,trivial⟩,⟨rfl,pR _⟩,⟨rfl,nP⟩,⟨?_,nP⟩,trivial⟩;show(gW ((xs.length:Nat)-1:Int) (ah t ((k+1:Nat):Int)).2.2.2.2 j).set j (IntKind.i64.wrap ((elt (dflt bf) (gW ((xs.length:Nat)-1:Int) (ah t ((k+1:Nat):Int)).2.2.2.2 j) (j:Nat)).1+((xs.length:Nat)-1:Int)),(elt (dflt bf) (gW ((xs.length:Nat)-1:Int) (ah t ((k+1:Nat):Int)).2.2.2.2 j) (j:Nat)).2)=gW ((xs.length:Nat)-1:Int) (ah t ((k+1:Nat):Int)).2.2.2.2 (j+1)
     rw[yj hlt2,hat,hw]
    ·show(ah t ((k+1:Nat):Int)).2.2.2.2.length-(j+1)<(ah t ((k+1:Nat):Int)).2.2.2.2.length-j;omega
   have hje:j=(ah t ((k+1:Nat):Int)).2.2.2.2.length:=by
    have q4:decide (((j:Nat):Int)<((gW ((xs.length:Nat)-1:Int) (ah t ((k+1:Nat):Int)).2.2.2.2 j).length:Nat))=false:=q3;rw[pW]at q4;have q5:(ah t ((k+1:Nat):Int)).2.2.2.2.length≤j:=by simpa using q4
    omega
   refine aI (by show(xs++om lv ((xs.length:Nat)-1:Int) t k).length+1≤_;rw[qA,JK (by omega)];have:=hs.1;omega) ?_;refine aI (by kernel_rfl) ?_;refine bF (k+1) (by show k+1+1≤t.length;omega) ?_ ?_
   ·refine hd [(20000,76)] rfl (aI (aI (dH (by have:=hs.1;omega)) rfl) (aI (aI rfl rfl) (aI (aI rfl rfl) trivial))) ⟨trivial,⟨rfl,trivial⟩,⟨?_,pR _⟩,trivial⟩;show(xs++om lv ((xs.length:Nat)-1:Int) t k)++[((ah t ((k+1:Nat):Int)).1,(IntKind.i64.wrap ((ah t ((k+1:Nat):Int)).2.1+lv)),(ah t ((k+1:Nat):Int)).2.2.1,(ah t ((k+1:Nat):Int)).2.2.2.1,gW ((xs.length:Nat)-1:Int) (ah t ((k+1:Nat):Int)).2.2.2.2 j)]=(xs++om lv ((xs.length:Nat)-1:Int) t (k+1));rw[FJ hlt,hje,Am,qF]
    congr 2
    unfold bQ jo;rw[show bY (ah t ((k+1:Nat):Int)).kind=true from hlev,qO _ (by omega)];rfl
   ·show t.length-1-(k+1)<t.length-1-k;omega
  ·have hlev:bY (ah t ((k+1:Nat):Int)).1=false:=q2;refine lp Nat (fun j=>[(12,.int .i64 (j:Nat))]) (fun j=>[.dF 11 117 [.int .i64 (ah t ((k+1:Nat):Int)).1,.int .i64 (ah t ((k+1:Nat):Int)).2.1,.int .i64 (ah t ((k+1:Nat):Int)).2.2.1,.sl 43,.sl 21001],.dF 10000 37 [.sl 21000],.row 21000 117 5 aF (xs++om lv ((xs.length:Nat)-1:Int) t k) us,.row 43 2 1 (.int .i64) (ah t ((k+1:Nat):Int)).2.2.2.1 [],.row 21001 119 2 bf (gW ((xs.length:Nat)-1:Int) (ah t ((k+1:Nat):Int)).2.2.2.2 j) []]) (fun j=>(ah t ((k+1:Nat):Int)).2.2.2.2.length-j) (fun j=>j≤(ah t ((k+1:Nat):Int)).2.2.2.2.length) 0 (Nat.zero_le _) ?_ ?_
   ·exact hd [(21000,20000),(21001,1000043)] rfl (aI (aI rfl rfl) trivial) ⟨trivial,⟨⟨rfl,rfl⟩,⟨rfl,rfl⟩,⟨rfl,rfl⟩,rfl,rfl,trivial⟩,trivial,⟨rfl,trivial⟩,⟨rfl,pR _⟩,⟨rfl,nP⟩,⟨rfl,nP⟩,trivial⟩
   intro j hj;refine aI (fun q3=> ?_) (fun q3=> ?_)
   ·have hlt2:j<(ah t ((k+1:Nat):Int)).2.2.2.2.length:=by
     have q4:decide (((j:Nat):Int)<((gW ((xs.length:Nat)-1:Int) (ah t ((k+1:Nat):Int)).2.2.2.2 j).length:Nat))=true:=q3;rw[pW]at q4;simpa using q4
    have hpv:zN (elt (dflt bf) (ah t ((k+1:Nat):Int)).2.2.2.2 (j:Nat)).1:=hpt (k+1) j;unfold zN at hpv;have hps:(ah t ((k+1:Nat):Int)).2.2.2.2.length≤1048576:=(hs.2 (k+1)).2;have hat:elt (dflt bf) (gW ((xs.length:Nat)-1:Int) (ah t ((k+1:Nat):Int)).2.2.2.2 j) (j:Nat)=elt (dflt bf) (ah t ((k+1:Nat):Int)).2.2.2.2 (j:Nat):=zl hlt2;have hw:IntKind.i64.wrap ((elt (dflt bf) (ah t ((k+1:Nat):Int)).2.2.2.2 (j:Nat)).1+((xs.length:Nat)-1:Int))=(elt (dflt bf) (ah t ((k+1:Nat):Int)).2.2.2.2 (j:Nat)).1+((xs.length:Nat)-1:Int):=qO _ (by omega)
    have hbnd:0≤((j:Nat):Int)∧((j:Nat):Int)<((gW ((xs.length:Nat)-1:Int) (ah t ((k+1:Nat):Int)).2.2.2.2 j).length:Nat):=by rw[pW];omega
    refine aI hbnd ?_;refine aI hbnd ?_;refine bF (j+1) hlt2 ?_ ?_
    ·refine hd [] rfl (aI (aI (dH (by omega)) rfl) trivial) ⟨trivial,⟨⟨rfl,rfl⟩,⟨rfl,rfl⟩,⟨rfl,rfl⟩,rfl,rfl,trivial⟩,trivial,⟨rfl,trivial⟩,⟨rfl,pR _⟩,⟨rfl,nP⟩,⟨?_,nP⟩,trivial⟩;show(gW ((xs.length:Nat)-1:Int) (ah t ((k+1:Nat):Int)).2.2.2.2 j).set j (IntKind.i64.wrap ((elt (dflt bf) (gW ((xs.length:Nat)-1:Int) (ah t ((k+1:Nat):Int)).2.2.2.2 j) (j:Nat)).1+((xs.length:Nat)-1:Int)),(elt (dflt bf) (gW ((xs.length:Nat)-1:Int) (ah t ((k+1:Nat):Int)).2.2.2.2 j) (j:Nat)).2)=gW ((xs.length:Nat)-1:Int) (ah t ((k+1:Nat):Int)).2.2.2.2 (j+1)
     rw[yj hlt2,hat,hw]
    ·show(ah t ((k+1:Nat):Int)).2.2.2.2.length-(j+1)<(ah t ((k+1:Nat):Int)).2.2.2.2.length-j;omega
   have hje:j=(ah t ((k+1:Nat):Int)).2.2.2.2.length:=by
    have q4:decide (((j:Nat):Int)<((gW ((xs.length:Nat)-1:Int) (ah t ((k+1:Nat):Int)).2.2.2.2 j).length:Nat))=false:=q3;rw[pW]at q4;have q5:(ah t ((k+1:Nat):Int)).2.2.2.2.length≤j:=by simpa using q4
    omega
   refine aI (by show(xs++om lv ((xs.length:Nat)-1:Int) t k).length+1≤_;rw[qA,JK (by omega)];have:=hs.1;omega) ?_;refine aI (by kernel_rfl) ?_;refine bF (k+1) (by show k+1+1≤t.length;omega) ?_ ?_
   ·refine hd [(20000,76)] rfl (aI (aI (dH (by have:=hs.1;omega)) rfl) (aI (aI rfl rfl) (aI (aI rfl rfl) trivial))) ⟨trivial,⟨rfl,trivial⟩,⟨?_,pR _⟩,trivial⟩;show(xs++om lv ((xs.length:Nat)-1:Int) t k)++[((ah t ((k+1:Nat):Int)).1,(ah t ((k+1:Nat):Int)).2.1,(ah t ((k+1:Nat):Int)).2.2.1,(ah t ((k+1:Nat):Int)).2.2.2.1,gW ((xs.length:Nat)-1:Int) (ah t ((k+1:Nat):Int)).2.2.2.2 j)]=(xs++om lv ((xs.length:Nat)-1:Int) t (k+1));rw[FJ hlt,hje,Am,qF]
    congr 2
    unfold bQ jo;rw[show bY (ah t ((k+1:Nat):Int)).kind=false from hlev];rfl
   ·show t.length-1-(k+1)<t.length-1-k;omega
 ·have hke:k=t.length-1:=by
   have q2:decide (((k+1:Nat):Int)<(t.length:Nat))=false:=q1;have q3:(t.length:Nat)≤((k+1:Nat):Int):=by simpa using q2
   omega
  subst hke;refine aI (show(0:Int)≤0∧(0:Int)<(t.length:Nat) by omega) ?_;refine aI (show(0:Int)≤0∧(0:Int)<((ah t 0).2.2.2.2.length:Nat) by omega) ?_;have hp0:zN (ay t (0,0)).1:=hpt 0 0;unfold zN at hp0;have hw:IntKind.i64.wrap (((xs.length:Nat)-1:Int)+(ay t (0,0)).1)=((xs.length:Nat)-1:Int)+(ay t (0,0)).1:=qO _ (by omega);have hlk:=FV (xs++om lv ((xs.length:Nat)-1:Int) t (t.length-1)) us (((xs.length:Nat)-1:Int)+(ay t (0,0)).1,(ay t (0,0)).2) (y,0) htop hy.app;rw[←hw]at hlk
  refine Or.inl (eI _ (aI (d9 _ _) ?_));refine Or.inl (eI _ (aI (d9 y 0) ?_));refine Or.inr (eI _ (eI _ (aI hlk ?_)));refine fin [(10002,20000)] (aI rfl ?_);refine⟨trivial,⟨rfl,trivial⟩,⟨?_,pR _⟩,trivial⟩;show bE (xs++om lv ((xs.length:Nat)-1:Int) t (t.length-1)) (IntKind.i64.wrap (((xs.length:Nat)-1:Int)+(ay t (0,0)).1),(ay t (0,0)).2) (y,0)=iG t lv xs y;rw[hw];rfl
theorem BX:bI Tryz.prog 152=true:=by kernel_rfl
theorem R3(bk:List (List aj))(xs:List aj)(a b:Int)(ha:0≤a∧a<(xs.length:Nat))(hb:0≤b∧b<(xs.length:Nat))(hs:∀i:Nat,dO (bJ bk i))(hv:aS (ah xs (au xs a b).1) (ah xs (au xs a b).2)=7→0≤(ah xs (au xs a b).1).2.2.1):
  aJ Tryz.prog 152 [.rsl aZ bk,.rp aZ xs,.int .i64 a,.int .i64 b] (.tup [.int .i64 (eG bk (ah xs (au xs a b).1) (ah xs (au xs a b).2)).1,.int .i64 (eG bk (ah xs (au xs a b).1) (ah xs (au xs a b).2)).2]):=by
 obtain⟨h1,h2⟩:=Aa (xs:=xs) ha hb;refine aJ.intro (nt:=92) aG mixed BX Tryz.func152 rfl rfl rfl rfl rfl ?_;refine Or.inl (eI _ (aI (RL xs a b ha hb) ?_));refine aI h1 ?_;refine aI h2 ?_;refine Or.inl (eI _ (aI (Q9 (ah xs (au xs a b).1) (ah xs (au xs a b).2)) ?_));refine aI (fun q1=> ?_) (fun q1=> ?_)
 ·have e:eG bk (ah xs (au xs a b).1) (ah xs (au xs a b).2)=(0,11):=by have b:((aS (ah xs (au xs a b).1) (ah xs (au xs a b).2))==8)=true:=q1;simp only[eG,b,qG]
  rw[e];exact rfl
 have b8:((aS (ah xs (au xs a b).1) (ah xs (au xs a b).2))==8)=false:=q1;have fin0:∀z:Int,((aS (ah xs (au xs a b).1) (ah xs (au xs a b).2))==7)=false→kV bk (aS (ah xs (au xs a b).1) (ah xs (au xs a b).2)) (ah xs (au xs a b).1) (ah xs (au xs a b).2)=z→eG bk (ah xs (au xs a b).1) (ah xs (au xs a b).2)=((dA (aS (ah xs (au xs a b).1) (ah xs (au xs a b).2)) z).1,0):=fun z h e=>by simp only[eG,b8,h,qH,e]
 refine aI (fun q2=> ?_) (fun q2=> ?_)
 ·refine aI (fun _=> ?_) (fun h=>by rw[show((aS (ah xs (au xs a b).1) (ah xs (au xs a b).2))==3)=true from q2]at h;cases h);refine Or.inl (eI _ (aI (za _ _) ?_));have b3:((aS (ah xs (au xs a b).1) (ah xs (au xs a b).2))==3)=true:=q2;have c3:(aS (ah xs (au xs a b).1) (ah xs (au xs a b).2))=3:=by simpa using b3
  have e:=fin0 (IntKind.i64.wrap (((ah xs (au xs a b).2).2.2.2.2.length:Nat)-1)) (by rw[c3];rfl) (by simp only[kV,b3,qG]);rw[e];exact rfl
 have b3:((aS (ah xs (au xs a b).1) (ah xs (au xs a b).2))==3)=false:=q2;refine aI (fun q3=> ?_) (fun q3=> ?_)
 ·refine Or.inl (eI _ (aI (za _ _) ?_));have b4:((aS (ah xs (au xs a b).1) (ah xs (au xs a b).2))==4)=true:=q3;have c4:(aS (ah xs (au xs a b).1) (ah xs (au xs a b).2))=4:=by simpa using b4
  have e:=fin0 (IntKind.i64.wrap (((ah xs (au xs a b).2).2.2.2.2.length:Nat)-1)) (by rw[c4];rfl) (by simp only[kV,b3,b4,qG,qH]);rw[e];exact rfl
 have b4:((aS (ah xs (au xs a b).1) (ah xs (au xs a b).2))==4)=false:=q3;refine aI (fun q4=> ?_) (fun q4=> ?_)
 ·refine Or.inl (eI _ (aI (NT _) ?_));refine Or.inl (eI _ (aI (za _ _) ?_));have b6:((aS (ah xs (au xs a b).1) (ah xs (au xs a b).2))==6)=true:=q4;have c6:(aS (ah xs (au xs a b).1) (ah xs (au xs a b).2))=6:=by simpa using b6
  have e:=fin0 (nS (ah xs (au xs a b).1)) (by rw[c6];rfl) (by simp only[kV,b3,b4,b6,qG,qH]);rw[e];exact rfl
 have b6:((aS (ah xs (au xs a b).1) (ah xs (au xs a b).2))==6)=false:=q4;refine aI (fun q5=> ?_) (fun q5=> ?_)
 ·have b7:((aS (ah xs (au xs a b).1) (ah xs (au xs a b).2))==7)=true:=q5;have c7:(aS (ah xs (au xs a b).1) (ah xs (au xs a b).2))=7:=by simpa using b7
  have v0:=hv c7;have ek:bJ bk (ah xs (au xs a b).1).2.2.1=bJ bk ((ah xs (au xs a b).1).2.2.1.toNat:Nat):=by unfold bJ;exact NK (by omega)
  have hsm:(bJ bk (ah xs (au xs a b).1).2.2.1).length≤2000000:=by rw[ek];have:=(hs (ah xs (au xs a b).1).2.2.1.toNat).1;omega
  refine aI (fun q6=> ?_) (fun q6=> ?_)
  ·have q7:decide ((bk.length:Int)≤(ah xs (au xs a b).1).2.2.1)=true:=q6;have e:eG bk (ah xs (au xs a b).1) (ah xs (au xs a b).2)=(0,3):=by simp only[eG,b8,b7,q7,qG,qH]
   rw[e];exact rfl
  have q7:decide ((bk.length:Int)≤(ah xs (au xs a b).1).2.2.1)=false:=q6;have hlt:(ah xs (au xs a b).1).2.2.1<(bk.length:Nat):=by simpa using q7
  refine aI ⟨v0,hlt⟩ ?_;refine aI ⟨v0,hlt⟩ ?_;refine Or.inl (eI _ (aI (ZK (bJ bk (ah xs (au xs a b).1).2.2.1) hsm) ?_));refine aI (by kernel_rfl) ?_;refine aI (fun q8=> ?_) (fun q8=> ?_)
  ·have q9:decide (8<IntKind.i64.wrap (lN (bJ bk (ah xs (au xs a b).1).2.2.1) (bJ bk (ah xs (au xs a b).1).2.2.1).length+(ah xs (au xs a b).1).2.1))=true:=q8;have e:eG bk (ah xs (au xs a b).1) (ah xs (au xs a b).2)=(0,9):=by simp only[eG,b8,b7,q7,q9,qG,qH]
   rw[e];exact rfl
  have q9:decide (8<IntKind.i64.wrap (lN (bJ bk (ah xs (au xs a b).1).2.2.1) (bJ bk (ah xs (au xs a b).1).2.2.1).length+(ah xs (au xs a b).1).2.1))=false:=q8;refine Or.inl (eI _ (aI (za _ _) ?_))
  have e:eG bk (ah xs (au xs a b).1) (ah xs (au xs a b).2)=((dA 7 ((bJ bk (ah xs (au xs a b).1).2.2.1).length:Nat)).1,0):=by
   have e7:kV bk 7 (ah xs (au xs a b).1) (ah xs (au xs a b).2)=((bJ bk (ah xs (au xs a b).1).2.2.1).length:Nat):=rfl;simp only[eG,b8,b7,q7,q9,qG,qH,e7]
  rw[e,←c7];exact rfl
 have b7:((aS (ah xs (au xs a b).1) (ah xs (au xs a b).2))==7)=false:=q5;refine Or.inl (eI _ (aI (za _ _) ?_));have e:=fin0 0 b7 (by simp only[kV,b3,b4,b6,b7,qH]);rw[e];exact rfl
theorem VZ:bI Tryz.prog 125=true:=by kernel_rfl
section
variable (bk:List (List aj))(xs:List aj)(us:List Value)(a b:Int)(ha:0≤a∧a<(xs.length:Nat))(hb:0≤b∧b<(xs.length:Nat))(hs:∀i:Nat,dO (bJ bk i))(hlx:xs.length≤800000)(hv:aS (ah xs (au xs a b).1) (ah xs (au xs a b).2)=7→0≤(ah xs (au xs a b).1).2.2.1)
include ha hb hs hlx hv
theorem X5{g e:Int}(hge:eG bk (ah xs (au xs a b).1) (ah xs (au xs a b).2)=(g,e))(he:e≠0):aA Tryz.prog 125 [.rsl aZ bk,.ptr 10000 0,.int .i64 a,.int .i64 b] (tA xs us) (.int .i64 e) (tA xs us):=by
 have hg:=R3 bk xs a b ha hb hs hv;rw[hge]at hg;refine aA.intro (nt:=134) aG mixed VZ Tryz.func125 rfl rfl rfl rfl rfl rfl ?_;refine Or.inr (eI _ (eI _ (aI (aA.sU aG [0,64,0,0] BX hg rfl) ?_)));refine aI (fun q1=> ?_) (fun q1=> ?_)
 ·refine fin [] (aI ⟨rfl,rfl⟩ ?_);exact⟨trivial,⟨rfl,trivial⟩,⟨rfl,pR _⟩,trivial⟩
 ·have q2:(e !=0)=false:=q1;simp at q2;exact absurd q2 he
theorem Vo{g:Int}(hge:eG bk (ah xs (au xs a b).1) (ah xs (au xs a b).2)=(g,0))(hf:600<IntKind.i64.wrap ((eU xs xs.length:Nat)+g)):aA Tryz.prog 125 [.rsl aZ bk,.ptr 10000 0,.int .i64 a,.int .i64 b] (tA xs us) (.int .i64 4) (tA xs us):=by
 have hg:=R3 bk xs a b ha hb hs hv;rw[hge]at hg;refine aA.intro (nt:=134) aG mixed VZ Tryz.func125 rfl rfl rfl rfl rfl rfl ?_;refine Or.inr (eI _ (eI _ (aI (aA.sU aG [0,64,0,0] BX hg rfl) ?_)));refine aI (fun q1=>by cases q1) (fun q1=> ?_);refine Or.inr (eI _ (eI _ (aI (aA.sU aG [64] Mk (Xg xs (by omega)) rfl) ?_)));refine aI (fun q2=> ?_) (fun q2=> ?_)
 ·refine fin [] (aI ⟨rfl,rfl⟩ ?_);exact⟨trivial,⟨rfl,trivial⟩,⟨rfl,pR _⟩,trivial⟩
 ·have q3:decide (600<IntKind.i64.wrap ((eU xs xs.length:Nat)+g))=false:=q2;simp only[qP]at q3;exact absurd hf q3
theorem ZA{c x y g:Int}(hf:au xs a b=(x,y))(hc:aS (ah xs x) (ah xs y)=c)(hge:eG bk (ah xs x) (ah xs y)=(g,0))(hc7:1≤c∧c≤7)(hp:Le xs c x y)(hA:bO xs)(h0:ak xs (0,0))(h7:c=7→0≤(ah xs x).2.2.1∧(ah xs x).2.2.1<(bk.length:Nat))(hn:¬600<IntKind.i64.wrap ((eU xs xs.length:Nat)+g))
  (hE:c=7→∀us,aA Tryz.prog 160 [.rp aZ (bJ bk (ah xs x).2.2.1),.ptr 10000 0,.int .i64 x,.int .i64 y] (tA xs us) (.tup []) (IV 10002 (iG (bJ bk (ah xs x).2.2.1) (ah xs x).2.1 xs y) us)):
  aA Tryz.prog 125 [.rsl aZ bk,.ptr 10000 0,.int .i64 a,.int .i64 b] (tA xs us) (.int .i64 0) (IV 10002 (dP bk xs c x y) []):=by
 have hg:=R3 bk xs a b ha hb hs hv;have hfst:=RL xs a b ha hb;rw[hf]at hg hfst;rw[show(x,y).1=x from rfl,show(x,y).2=y from rfl,hge]at hg;rw[show(x,y).1=x from rfl,show(x,y).2=y from rfl]at hfst;obtain⟨⟨hx0,hy0,p12,p3,px,py,dy,p5,p6⟩,k5,k6⟩:=hp;refine aA.gH 10001 VZ ?_;refine aI (fun _ us' hpre hlen=> ?_) (fun h=>absurd rfl h)
 skip
 refine aA.intro (nt:=134) aG mixed VZ Tryz.func125 rfl rfl rfl rfl rfl rfl ?_;refine Or.inr (eI _ (eI _ (aI (aA.sU aG [0,64,0,0] BX hg rfl) ?_)));refine aI (fun q1=>by cases q1) (fun q1=> ?_);refine Or.inr (eI _ (eI _ (aI (aA.sU aG [64] Mk (Xg xs (by omega)) rfl) ?_)));refine aI (fun q2=> ?_) (fun q2=> ?_)
 ·have q3:decide (600<IntKind.i64.wrap ((eU xs xs.length:Nat)+g))=true:=q2;simp only[qQ]at q3;exact absurd q3 hn
 refine Or.inr (eI _ (eI _ (aI (aA.sU aG [64,0,0] Kk hfst rfl) ?_)));refine aI hx0 ?_;refine aI hy0 ?_;have hce:=Ls xs us' x y;rw[hc]at hce;refine Or.inr (eI _ (eI _ (aI hce ?_)));refine aI (by kernel_rfl) ?_;refine aI (fun b1=> ?_) (fun b1=> ?_)
 ·have c1:c=1:=by have b:(c==1)=true:=b1;simpa using b
  have n7:(c==7)=false:=by rw[c1];rfl
  refine aI (fun _=> ?_) (fun h=>by rw[show(c==1)=true from b1]at h;cases h);obtain⟨j1,j2,j3,j4⟩:=p12 (.inl c1);refine Or.inl (eI _ (aI (d9 _ _) ?_));refine Or.inl (eI _ (aI (d9 _ _) ?_));refine Or.inr (eI _ (eI _ (aI (N8 xs us' (x,1) (y,1) j1 j3 (hA _ j1) (hA _ j3)) ?_)));have hA1:=hA.join j1 j3;refine Or.inl (eI _ (aI (d9 _ _) ?_));refine Or.inl (eI _ (aI (d9 _ _) ?_));refine Or.inr (eI _ (eI _ (aI (N8 (aY xs (x,1) (y,1)) us' (x,2) (y,2) j2.join j4.join (hA1 _ j2.join) (hA1 _ j4.join)) ?_)));have hll:xs.length≤(aY (aY xs (x,1) (y,1)) (x,2) (y,2)).length:=by rw[tT,tT];exact Nat.le_refl _
  have hlx2:0≤x∧x<((aY (aY xs (x,1) (y,1)) (x,2) (y,2)).length:Nat):=by omega
  have hly:0≤y∧y<((aY (aY xs (x,1) (y,1)) (x,2) (y,2)).length:Nat):=by omega
  refine Or.inr (eI _ (eI _ (aI (kM (aY (aY xs (x,1) (y,1)) (x,2) (y,2)) us' x hlx2) ?_)));refine aI (fun _=> ?_) (fun q7=>by have q8:(c !=7)=false:=q7;rw[c1]at q8;cases q8);refine Or.inr (eI _ (eI _ (aI (kM (bn (aY (aY xs (x,1) (y,1)) (x,2) (y,2)) x) [] y (by rw[iK];exact hly)) ?_)));refine fin [(10002,10001)] (aI ⟨rfl,rfl⟩ ?_);refine⟨trivial,⟨rfl,trivial⟩,⟨?_,nP⟩,trivial⟩;show bn (bn (aY (aY xs (x,1) (y,1)) (x,2) (y,2)) x) y=dP bk xs c x y;simp only[dP,jX,b1,n7,qG,qH]
 refine aI (fun b2=> ?_) (fun b2=> ?_)
 ·have c2:c=2:=by have b:(c==2)=true:=b2;simpa using b
  have n7:(c==7)=false:=by rw[c2];rfl
  obtain⟨j1,j2,j3,j4⟩:=p12 (.inr c2);refine Or.inl (eI _ (aI (d9 _ _) ?_));refine Or.inl (eI _ (aI (d9 _ _) ?_));refine Or.inr (eI _ (eI _ (aI (N8 xs us' (x,1) (y,1) j1 j3 (hA _ j1) (hA _ j3)) ?_)));have hA1:=hA.join j1 j3;refine Or.inl (eI _ (aI (d9 _ _) ?_));refine Or.inl (eI _ (aI (d9 _ _) ?_));refine Or.inr (eI _ (eI _ (aI (N8 (aY xs (x,1) (y,1)) us' (x,2) (y,2) j2.join j4.join (hA1 _ j2.join) (hA1 _ j4.join)) ?_)));have hll:xs.length≤(aY (aY xs (x,1) (y,1)) (x,2) (y,2)).length:=by rw[tT,tT];exact Nat.le_refl _
  have hlx2:0≤x∧x<((aY (aY xs (x,1) (y,1)) (x,2) (y,2)).length:Nat):=by omega
  have hly:0≤y∧y<((aY (aY xs (x,1) (y,1)) (x,2) (y,2)).length:Nat):=by omega
  refine Or.inr (eI _ (eI _ (aI (kM (aY (aY xs (x,1) (y,1)) (x,2) (y,2)) us' x hlx2) ?_)));refine aI (fun _=> ?_) (fun q7=>by have q8:(c !=7)=false:=q7;rw[c2]at q8;cases q8);refine Or.inr (eI _ (eI _ (aI (kM (bn (aY (aY xs (x,1) (y,1)) (x,2) (y,2)) x) [] y (by rw[iK];exact hly)) ?_)));refine fin [(10002,10001)] (aI ⟨rfl,rfl⟩ ?_);refine⟨trivial,⟨rfl,trivial⟩,⟨?_,nP⟩,trivial⟩;show bn (bn (aY (aY xs (x,1) (y,1)) (x,2) (y,2)) x) y=dP bk xs c x y;simp only[dP,jX,b1,b2,n7,qG,qH]
 refine aI (fun b3=> ?_) (fun b3=> ?_)
 ·have c3:c=3:=by have b:(c==3)=true:=b3;simpa using b
  have n7:(c==7)=false:=by rw[c3];rfl
  obtain⟨j1,j2⟩:=p3 c3;refine Or.inr (eI _ (eI _ (aI (dupA xs us' x y hA h0 (by omega) j1 j2 hy0 py.2 dy py.1) ?_)));have hll:xs.length≤(bM xs x y).length:=by exact EL xs x y
  have hlx2:0≤x∧x<((bM xs x y).length:Nat):=by omega
  have hly:0≤y∧y<((bM xs x y).length:Nat):=by omega
  refine Or.inr (eI _ (eI _ (aI (kM (bM xs x y) us' x hlx2) ?_)));refine aI (fun _=> ?_) (fun q7=>by have q8:(c !=7)=false:=q7;rw[c3]at q8;cases q8);refine Or.inr (eI _ (eI _ (aI (kM (bn (bM xs x y) x) [] y (by rw[iK];exact hly)) ?_)));refine fin [(10002,72)] (aI ⟨rfl,rfl⟩ ?_);refine⟨trivial,⟨rfl,trivial⟩,⟨?_,nP⟩,trivial⟩;show bn (bn (bM xs x y) x) y=dP bk xs c x y;simp only[dP,jX,b1,b2,b3,n7,qG,qH]
 refine aI (fun b4=> ?_) (fun b4=> ?_)
 ·have c4:c=4:=by have b:(c==4)=true:=b4;simpa using b
  have n7:(c==7)=false:=by rw[c4];rfl
  have hyk:∀i:Nat,i<((ah xs y).2.2.2.2.length-1)→ak xs (y,((i+1:Nat):Int)):=fun i hi=>⟨hy0.1,hy0.2,by omega,by show((i+1:Nat):Int)<((ah xs y).2.2.2.2.length:Nat);omega⟩
  refine aI hy0 ?_;refine aI (sI hlen hy0.1 hy0.2) ?_;refine lp Nat (fun k=>[(13,.int .i64 ((k+1:Nat):Int)),(12,.int .i64 ((ah xs y).2.2.2.2.length:Nat))]) (fun k=>[.dF 10000 37 [.sl 20000],.row 20000 117 5 aF (r9 y xs k) us']) (fun k=>((ah xs y).2.2.2.2.length-1)-k) (fun k=>k≤((ah xs y).2.2.2.2.length-1)) 0 (Nat.zero_le _) ?_ ?_
  ·exact hd [(20000,10001)] rfl (aI (aI rfl rfl) (aI (aI rfl rfl) trivial)) ⟨trivial,⟨rfl,trivial⟩,⟨rfl,pR _⟩,trivial⟩
  intro k hk;refine aI (fun q4=> ?_) (fun q4=> ?_)
  ·have hlt:k<((ah xs y).2.2.2.2.length-1):=by
    have q5:decide (((k+1:Nat):Int)<((ah xs y).2.2.2.2.length:Nat))=true:=q4;have q6:((k+1:Nat):Int)<((ah xs y).2.2.2.2.length:Nat):=by simpa using q5
    omega
   have hadd:=uJ (r9 y xs k) us' 5 0 0 1 (by rw[mU];omega) (by omega);rw[mU]at hadd;refine Or.inr (eI _ (eI _ (aI hadd ?_)));refine Or.inl (eI _ (aI (d9 _ _) ?_));refine Or.inl (eI _ (aI (d9 _ _) ?_));refine Or.inr (eI _ (eI _ (aI (moveA (r9 y xs k++[aX 5 0 0 [] 1]) us' (y,((k+1:Nat):Int)) (((xs.length+k:Nat):Int),0) ((yX hA h0 k fun i hi=>hyk i (by omega)).add (sQ h0 k) _ _ _ _ _) (sQ (hyk k hlt) k).app (BP k)) ?_)));refine bF (k+1) (by omega) ?_ ?_
   ·exact hd [(20000,90)] rfl (aI (aI (dH (by omega)) rfl) (aI (aI rfl rfl) trivial)) ⟨trivial,⟨rfl,trivial⟩,⟨rfl,pR _⟩,trivial⟩
   ·show((ah xs y).2.2.2.2.length-1)-(k+1)<((ah xs y).2.2.2.2.length-1)-k;omega
  have hge2:((ah xs y).2.2.2.2.length-1)≤k:=by
   have q5:decide (((k+1:Nat):Int)<((ah xs y).2.2.2.2.length:Nat))=false:=q4;have q6:((ah xs y).2.2.2.2.length:Nat)≤((k+1:Nat):Int):=by simpa using q5
   omega
  have hke:k=((ah xs y).2.2.2.2.length-1):=by omega
  subst hke;have hll:xs.length≤(iA xs y).length:=by unfold iA;rw[mU];omega
  have hlx2:0≤x∧x<((iA xs y).length:Nat):=by omega
  have hly:0≤y∧y<((iA xs y).length:Nat):=by omega
  refine Or.inr (eI _ (eI _ (aI (kM (iA xs y) us' x hlx2) ?_)));refine aI (fun _=> ?_) (fun q7=>by have q8:(c !=7)=false:=q7;rw[c4]at q8;cases q8);refine Or.inr (eI _ (eI _ (aI (kM (bn (iA xs y) x) [] y (by rw[iK];exact hly)) ?_)));refine fin [(10002,20000)] (aI ⟨rfl,rfl⟩ ?_);refine⟨trivial,⟨rfl,trivial⟩,⟨?_,nP⟩,trivial⟩;show bn (bn (iA xs y) x) y=dP bk xs c x y;simp only[dP,jX,b1,b2,b3,b4,n7,qG,qH]
 refine aI (fun b5=> ?_) (fun b5=> ?_)
 ·have c5:c=5:=by have b:(c==5)=true:=b5;simpa using b
  have n7:(c==7)=false:=by rw[c5];rfl
  obtain⟨j1,j2,j3⟩:=p5 c5;refine Or.inr (eI _ (eI _ (aI (ZV xs us' x y hA h0 (by omega) hx0 j1 (k5 c5) j2 j3 dy py.2) ?_)));have hll:xs.length≤(bB xs x y).length:=by exact Kr xs x y
  have hlx2:0≤x∧x<((bB xs x y).length:Nat):=by omega
  have hly:0≤y∧y<((bB xs x y).length:Nat):=by omega
  refine Or.inr (eI _ (eI _ (aI (kM (bB xs x y) us' x hlx2) ?_)));refine aI (fun _=> ?_) (fun q7=>by have q8:(c !=7)=false:=q7;rw[c5]at q8;cases q8);refine Or.inr (eI _ (eI _ (aI (kM (bn (bB xs x y) x) [] y (by rw[iK];exact hly)) ?_)));refine fin [(10002,103)] (aI ⟨rfl,rfl⟩ ?_);refine⟨trivial,⟨rfl,trivial⟩,⟨?_,nP⟩,trivial⟩;show bn (bn (bB xs x y) x) y=dP bk xs c x y;simp only[dP,jX,b1,b2,b3,b4,b5,n7,qG,qH]
 refine aI (fun b6=> ?_) (fun b6=> ?_)
 ·have c6:c=6:=by have b:(c==6)=true:=b6;simpa using b
  have n7:(c==7)=false:=by rw[c6];rfl
  obtain⟨j1,j2,j3⟩:=p6 c6;refine Or.inr (eI _ (eI _ (aI (Vg xs us' x y hA h0 (by omega) hx0 j1 (k6 c6).1 (k6 c6).2 px.2 px.1 dy py.2) ?_)));have hll:xs.length≤(eY xs x y).length:=by exact Lm xs x y
  have hlx2:0≤x∧x<((eY xs x y).length:Nat):=by omega
  have hly:0≤y∧y<((eY xs x y).length:Nat):=by omega
  refine Or.inr (eI _ (eI _ (aI (kM (eY xs x y) us' x hlx2) ?_)));refine aI (fun _=> ?_) (fun q7=>by have q8:(c !=7)=false:=q7;rw[c6]at q8;cases q8);refine Or.inr (eI _ (eI _ (aI (kM (bn (eY xs x y) x) [] y (by rw[iK];exact hly)) ?_)));refine fin [(10002,109)] (aI ⟨rfl,rfl⟩ ?_);refine⟨trivial,⟨rfl,trivial⟩,⟨?_,nP⟩,trivial⟩;show bn (bn (eY xs x y) x) y=dP bk xs c x y;simp only[dP,jX,b1,b2,b3,b4,b5,b6,n7,qG,qH]
 refine aI (fun b7=> ?_) (fun b7=> ?_)
 ·have c7:c=7:=by have b:(c==7)=true:=b7;simpa using b
  have n7:(c==7)=true:=b7;refine aI hx0 ?_;refine aI (h7 c7) ?_;refine Or.inr (eI _ (eI _ (aI (hE c7 us') ?_)));have hll:xs.length≤(iG (bJ bk (ah xs x).2.2.1) (ah xs x).2.1 xs y).length:=by unfold iG;rw[iU,qA];omega
  have hlx2:0≤x∧x<((iG (bJ bk (ah xs x).2.2.1) (ah xs x).2.1 xs y).length:Nat):=by omega
  have hly:0≤y∧y<((iG (bJ bk (ah xs x).2.2.1) (ah xs x).2.1 xs y).length:Nat):=by omega
  refine Or.inr (eI _ (eI _ (aI (kM (iG (bJ bk (ah xs x).2.2.1) (ah xs x).2.1 xs y) us' x hlx2) ?_)));refine aI (fun q7=>by have q8:(c !=7)=true:=q7;rw[c7]at q8;cases q8) (fun _=> ?_);refine fin [(10002,125)] (aI ⟨rfl,rfl⟩ ?_);refine⟨trivial,⟨rfl,trivial⟩,⟨?_,nP⟩,trivial⟩;show bn (iG (bJ bk (ah xs x).2.2.1) (ah xs x).2.1 xs y) x=dP bk xs c x y;simp only[dP,jX,b1,b2,b3,b4,b5,b6,b7,n7,qG,qH]
 ·exfalso;simp at b1 b2 b3 b4 b5 b6 b7;omega
end
section
variable (bk:List (List aj))(xs:List aj)(us:List Value)(pk:Int)(tr:List Int)(a b:Int)(ha:0≤a∧a<(xs.length:Nat))(hb:0≤b∧b<(xs.length:Nat))(hs:∀i:Nat,dO (bJ bk i))(hlx:xs.length≤800000)(hv:aS (ah xs (au xs a b).1) (ah xs (au xs a b).2)=7→0≤(ah xs (au xs a b).1).2.2.1)
include ha hb hs hlx hv
end
end Go.Proofs.YtbdimbjclhmeoaaGreat
namespace Go.Proofs.YtbdimbjclhmeoaaGreat
open Go Go.RowKit Go.Proofs Go.Tr
theorem Kq:bI Tryz.prog 39=true:=by kernel_rfl
theorem F7:bI Tryz.prog 40=true:=by kernel_rfl
theorem Tq:bI Tryz.prog 95=true:=by kernel_rfl
theorem Dv:bI Tryz.prog 67=true:=by kernel_rfl
def fQ(xs:List aj)(k:Int):Bool:=bif fA k 0 ((xs.length:Int)-1)then(ah xs k).1 !=0 else false
theorem nQ{xs:List aj}{k:Int}(h:fQ xs k=true):0≤k∧k<(xs.length:Nat):=by
 unfold fQ at h;cases hb:fA k 0 ((xs.length:Int)-1)with
 |true=>have:=iw hb;omega
 |false=>rw[hb]at h;cases h
theorem YV(xs:List aj)(k:Int)(hl:xs.length≤1000000):aJ Tryz.prog 39 [.rp aZ xs,.int .i64 k] (.bool (fQ xs k)):=by
 refine aJ.intro (nt:=24) aG mixed Kq Tryz.func39 rfl rfl rfl rfl rfl ?_;have hw:IntKind.i64.wrap ((xs.length:Int)-1)=(xs.length:Int)-1:=qO _ (by omega);have hq:aJ Tryz.prog 38 [.int .i64 k,.int .i64 0,.int .i64 (IntKind.i64.wrap ((xs.length:Int)-1))] (.bool (fA k 0 ((xs.length:Int)-1))):=by rw[hw];exact Bg k 0 _
 refine Or.inl (eI _ (aI hq ?_));refine aI (fun h=>by(have h1:fA k 0 ((xs.length:Int)-1)=true:=h);have:=iw h1;show 0≤k∧k<(xs.length:Nat);omega) ?_;exact rfl
def lI(xs:List aj)(a b:Int):Bool:=
 bif (bif decide (0<a)then decide (a<b)else false)then bT [(elt (dflt bf) (ah xs a).2.2.2.2 0).1,(elt (dflt bf) (ah xs a).2.2.2.2 0).2] [b,0]else false
theorem U6(xs:List aj)(a b:Int)(ha:0≤a∧a<(xs.length:Nat))(hp:0<(ah xs a).2.2.2.2.length):aJ Tryz.prog 40 [.rp aZ xs,.int .i64 a,.int .i64 b] (.bool (lI xs a b)):=by
 refine aJ.intro (nt:=29) aG mixed F7 Tryz.func40 rfl rfl rfl rfl rfl ?_;refine aI (fun _=>ha) ?_;refine aI (fun _=>⟨Int.le_refl 0,by show(0:Int)<((ah xs a).2.2.2.2.length:Nat);omega⟩) ?_;refine Or.inl (eI _ (aI (fun _=>d9 b 0) ?_));refine aI (fun _=>⟨by kernel_rfl,rfl⟩) ?_;refine aI (by kernel_rfl) ?_;exact rfl
section
variable (bk:List (List aj))(xs:List aj)(us:List Value)(a b:Int)(ha:0≤a∧a<(xs.length:Nat))(hb:0≤b∧b<(xs.length:Nat))
include ha hb
theorem ZE{code:Int}(hc:code≠0)(hD:aA Tryz.prog 125 [.rsl aZ bk,.ptr 10000 0,.int .i64 a,.int .i64 b] (tA xs us) (.int .i64 code) (tA xs us)):aA Tryz.prog 95 [.rsl aZ bk,.ptr 10000 0,.int .i64 a,.int .i64 b] (tA xs us) (.tup [zG (0,0,0,0,0),.int .i64 code]) (tA xs us):=by
 refine aA.intro (nt:=59) aG mixed Tq Tryz.func95 rfl rfl rfl rfl rfl rfl ?_;refine aI ha ?_;refine aI hb ?_;refine Or.inl (Or.inl (eI _ (eI _ (aI (Ls xs us a b) (eI [] (aI rfl ?_))))));refine aI (by kernel_rfl) ?_;refine Or.inr (eI _ (eI _ (aI hD ?_)));refine aI (fun q1=> ?_) (fun q1=> ?_)
 ·refine fin [] (aI rfl ?_);exact⟨trivial,⟨rfl,trivial⟩,⟨rfl,pR _⟩,trivial⟩
 ·exfalso;have q2:(code !=0)=false:=q1;simp at q2;exact hc q2
theorem X8{ys:List aj}(hl:xs.length≤1000000)(hly:ys.length≤1000000)(hD:aA Tryz.prog 125 [.rsl aZ bk,.ptr 10000 0,.int .i64 a,.int .i64 b] (tA xs us) (.int .i64 0) (IV 10002 ys [])):aA Tryz.prog 95 [.rsl aZ bk,.ptr 10000 0,.int .i64 a,.int .i64 b] (tA xs us)
  (bif decide (3000<(ys.length:Int))then .tup [zG (0,0,0,0,0),.int .i64 4]else .tup [zG (a,b,aS (ah xs a) (ah xs b),(xs.length:Int),(ys.length:Int)-(xs.length:Int)),.int .i64 0]) (IV 10002 ys []):=by
 refine aA.intro (nt:=59) aG mixed Tq Tryz.func95 rfl rfl rfl rfl rfl rfl ?_;refine aI ha ?_;refine aI hb ?_;refine Or.inl (Or.inl (eI _ (eI _ (aI (Ls xs us a b) (eI [] (aI rfl ?_))))));refine aI (by kernel_rfl) ?_;refine Or.inr (eI _ (eI _ (aI hD ?_)));refine aI (fun q1=>by cases q1) (fun q1=> ?_);refine aI (by kernel_rfl) ?_;refine aI (fun q1=> ?_) (fun q1=> ?_)
 ·have q2:decide (3000<(ys.length:Int))=true:=q1;rw[q2];refine fin [(10002,37)] (aI rfl ?_);exact⟨trivial,⟨rfl,trivial⟩,⟨rfl,pR _⟩,trivial⟩
 ·have q2:decide (3000<(ys.length:Int))=false:=q1;rw[q2];have hw:IntKind.i64.wrap ((ys.length:Int)-(xs.length:Int))=(ys.length:Int)-(xs.length:Int):=qO _ (by omega);refine fin [(10002,37)] (aI (congrArg (fun z:Int=>(SV.tup [zG (a,b,aS (ah xs a) (ah xs b),(xs.length:Int),z),.int .i64 0])) hw) ?_);exact⟨trivial,⟨rfl,trivial⟩,⟨rfl,pR _⟩,trivial⟩
end
end Go.Proofs.YtbdimbjclhmeoaaGreat
namespace Go.Proofs.YtbdimbjclhmeoaaGreat
open Go Go.RowKit Go.Proofs Go.Tr
section
variable (bk:List (List aj))(xs:List aj)(us:List Value)(e:aB)(hl:xs.length≤1000000)
theorem kW(k:Int)(hl:xs.length≤1000000):aA Tryz.prog 39 [.ptr 10000 0,.int .i64 k] (tA xs us) (.bool (fQ xs k)) (tA xs us):=aA.sU aG [64,0] Kq (YV xs k hl) rfl
include hl
theorem Z4(h:(fQ xs e.1&&fQ xs e.2.1)=false):aA Tryz.prog 67 [.rsl aZ bk,.ptr 10000 0,zG e] (tA xs us) (.int .i64 3) (tA xs us):=by
 refine aA.intro (nt:=44) aG mixed Dv Tryz.func67 rfl rfl rfl rfl rfl rfl ?_;refine Or.inr (eI _ (eI _ (aI (kW xs us e.1 hl) ?_)));cases ha:fQ xs e.1 with
 |false=>
  refine Or.inr (aI (fun g=>by cases g) (fun g=> ?_));refine eI (.bool false) ?_;refine aI (fun q=> ?_) (fun q=>by cases q);refine fin [] (aI ⟨rfl,rfl⟩ ?_);exact⟨trivial,⟨rfl,trivial⟩,⟨rfl,pR _⟩,trivial⟩
 |true=>
  have hb:fQ xs e.2.1=false:=by rw[ha]at h;simpa using h
  refine Or.inr (aI (fun g=> ?_) (fun g=>by cases g));refine eI _ (eI _ (aI (kW xs us e.2.1 hl) ?_));rw[hb];refine aI (fun q=> ?_) (fun q=>by cases q);refine fin [] (aI ⟨rfl,rfl⟩ ?_);exact⟨trivial,⟨rfl,trivial⟩,⟨rfl,pR _⟩,trivial⟩
variable (ha:fQ xs e.1=true)(hb:fQ xs e.2.1=true)(hp:0<(ah xs e.1).2.2.2.2.length)
theorem uH(a b:Int)(ha:0≤a∧a<(xs.length:Nat))(hp:0<(ah xs a).2.2.2.2.length):aA Tryz.prog 40 [.ptr 10000 0,.int .i64 a,.int .i64 b] (tA xs us) (.bool (lI xs a b)) (tA xs us):=aA.sU aG [64,0,0] F7 (U6 xs a b ha hp) rfl
include ha hb hp
theorem Z5(h:lI xs e.1 e.2.1=false):aA Tryz.prog 67 [.rsl aZ bk,.ptr 10000 0,zG e] (tA xs us) (.int .i64 5) (tA xs us):=by
 refine aA.intro (nt:=44) aG mixed Dv Tryz.func67 rfl rfl rfl rfl rfl rfl ?_;refine Or.inr (eI _ (eI _ (aI (kW xs us e.1 hl) ?_)));rw[ha];refine Or.inr (aI (fun g=> ?_) (fun g=>by cases g));refine eI _ (eI _ (aI (kW xs us e.2.1 hl) ?_));rw[hb];refine aI (fun q=>by cases q) (fun q=> ?_);refine Or.inr (eI _ (eI _ (aI (uH xs us hl e.1 e.2.1 (nQ ha) hp) ?_)));rw[h];refine aI (fun q=> ?_) (fun q=>by cases q);refine fin [] (aI ⟨rfl,rfl⟩ ?_);exact⟨trivial,⟨rfl,trivial⟩,⟨rfl,pR _⟩,trivial⟩
variable (h:lI xs e.1 e.2.1=true)
include h
theorem V7{code:Int}(hc:code≠0)(hP:aA Tryz.prog 95 [.rsl aZ bk,.ptr 10000 0,.int .i64 e.1,.int .i64 e.2.1] (tA xs us) (.tup [zG (0,0,0,0,0),.int .i64 code]) (tA xs us)):aA Tryz.prog 67 [.rsl aZ bk,.ptr 10000 0,zG e] (tA xs us) (.int .i64 code) (tA xs us):=by
 refine aA.intro (nt:=44) aG mixed Dv Tryz.func67 rfl rfl rfl rfl rfl rfl ?_;refine Or.inr (eI _ (eI _ (aI (kW xs us e.1 hl) ?_)));rw[ha];refine Or.inr (aI (fun g=> ?_) (fun g=>by cases g));refine eI _ (eI _ (aI (kW xs us e.2.1 hl) ?_));rw[hb];refine aI (fun q=>by cases q) (fun q=> ?_);refine Or.inr (eI _ (eI _ (aI (uH xs us hl e.1 e.2.1 (nQ ha) hp) ?_)));rw[h];refine aI (fun q=>by cases q) (fun q=> ?_);refine Or.inr (eI _ (eI _ (aI hP ?_)));refine aI (fun q1=> ?_) (fun q1=> ?_)
 ·refine fin [] (aI ⟨rfl,rfl⟩ ?_);exact⟨trivial,⟨rfl,trivial⟩,⟨rfl,pR _⟩,trivial⟩
 ·exfalso;have q2:(code !=0)=false:=q1;simp at q2;exact hc q2
theorem TM{ys:List aj}{code:Int}(hc:code≠0)(hP:aA Tryz.prog 95 [.rsl aZ bk,.ptr 10000 0,.int .i64 e.1,.int .i64 e.2.1] (tA xs us) (.tup [zG (0,0,0,0,0),.int .i64 code]) (IV 10002 ys [])):aA Tryz.prog 67 [.rsl aZ bk,.ptr 10000 0,zG e] (tA xs us) (.int .i64 code) (IV 10002 ys []):=by
 refine aA.intro (nt:=44) aG mixed Dv Tryz.func67 rfl rfl rfl rfl rfl rfl ?_;refine Or.inr (eI _ (eI _ (aI (kW xs us e.1 hl) ?_)));rw[ha];refine Or.inr (aI (fun g=> ?_) (fun g=>by cases g));refine eI _ (eI _ (aI (kW xs us e.2.1 hl) ?_));rw[hb];refine aI (fun q=>by cases q) (fun q=> ?_);refine Or.inr (eI _ (eI _ (aI (uH xs us hl e.1 e.2.1 (nQ ha) hp) ?_)));rw[h];refine aI (fun q=>by cases q) (fun q=> ?_);refine Or.inr (eI _ (eI _ (aI hP ?_)));refine aI (fun q1=> ?_) (fun q1=> ?_)
 ·refine fin [(10002,35)] (aI ⟨rfl,rfl⟩ ?_);exact⟨trivial,⟨rfl,trivial⟩,⟨rfl,pR _⟩,trivial⟩
 ·exfalso;have q2:(code !=0)=false:=q1;simp at q2;exact hc q2
theorem YA{ys:List aj}{f:aB}(hP:aA Tryz.prog 95 [.rsl aZ bk,.ptr 10000 0,.int .i64 e.1,.int .i64 e.2.1] (tA xs us) (.tup [zG f,.int .i64 0]) (IV 10002 ys [])):aA Tryz.prog 67 [.rsl aZ bk,.ptr 10000 0,zG e] (tA xs us) (.int .i64 (bif !bT (jE f) (jE e)then 14 else 0)) (IV 10002 ys []):=by
 refine aA.intro (nt:=44) aG mixed Dv Tryz.func67 rfl rfl rfl rfl rfl rfl ?_;refine Or.inr (eI _ (eI _ (aI (kW xs us e.1 hl) ?_)));rw[ha];refine Or.inr (aI (fun g=> ?_) (fun g=>by cases g));refine eI _ (eI _ (aI (kW xs us e.2.1 hl) ?_));rw[hb];refine aI (fun q=>by cases q) (fun q=> ?_);refine Or.inr (eI _ (eI _ (aI (uH xs us hl e.1 e.2.1 (nQ ha) hp) ?_)));rw[h];refine aI (fun q=>by cases q) (fun q=> ?_);refine Or.inr (eI _ (eI _ (aI hP ?_)));refine aI (fun q1=>by cases q1) (fun q1=> ?_);refine aI ⟨by kernel_rfl,rfl⟩ ?_;refine aI (fun q2=> ?_) (fun q2=> ?_)
 ·have q3:(!bT (jE f) (jE e))=true:=q2;rw[q3];refine fin [(10002,35)] (aI ⟨rfl,rfl⟩ ?_);exact⟨trivial,⟨rfl,trivial⟩,⟨rfl,pR _⟩,trivial⟩
 ·have q3:(!bT (jE f) (jE e))=false:=q2;rw[q3];refine fin [(10002,35)] (aI ⟨rfl,rfl⟩ ?_);exact⟨trivial,⟨rfl,trivial⟩,⟨rfl,pR _⟩,trivial⟩
end
end Go.Proofs.YtbdimbjclhmeoaaGreat
