
/- The reference's nets: wires, new agents, holes. -/
import Derived.Test.YtjijpkphkicoeaaGreatShort
import Derived.Test.YtjijpkphkicoeaaGreatProg
import Derived.Test.YtjijpkphkicoeaaGreatVti
import Derived.Test.YtjijpkphkicoeaaGreatNz
import Derived.Test.YtjijpkphkicoeaaGreatIo
import Derived.Test.YtjijpkphkicoeaaGreatVV
set_option maxHeartbeats 4000000
set_option maxRecDepth 100000
set_option linter.unusedSimpArgs false
set_option linter.unusedVariables false
set_option linter.unusedSectionVars false
namespace Go.Proofs.YtjijpkphkicoeaaGreat
open Go Go.RowKit Go.Proofs Go.Tr
theorem yI:callOk Tryz.prog 178=true:=by kernel_rfl
theorem DJ:callOk Tryz.prog 124=true:=by kernel_rfl
theorem Jz:callOk Tryz.prog 141=true:=by kernel_rfl
theorem Jy:callOk Tryz.prog 138=true:=by kernel_rfl
theorem BS:callOk Tryz.prog 145=true:=by kernel_rfl
theorem DI:callOk Tryz.prog 140=true:=by kernel_rfl
theorem portS(a b:Int):QCall Tryz.prog 125 [.int .i64 a,.int .i64 b] (.agg [.int .i64 a,.int .i64 b]):=by
 refine QCall.intro (nt:=8) ti_ok mixed (by kernel_rfl) Tryz.func125 rfl rfl rfl rfl rfl ?_;exact rfl
theorem peerS(xs:List NAgent)(p:NPort)(hp:PortIn xs p):QCall Tryz.prog 124 [.rp uNet xs,vP p] (vP (peerN xs p)):=by
 obtain⟨p1,p2,p3,p4⟩:=hp;refine QCall.intro (nt:=18) ti_ok mixed DJ Tryz.func124 rfl rfl rfl rfl rfl ?_;refine aI ⟨p1,p2⟩ ?_;refine aI ⟨p3,p4⟩ ?_;refine aI (by kernel_rfl) ?_;exact rfl
theorem MS:callOk Tryz.prog 135=true:=by kernel_rfl
theorem Rt(xs:List Int)(hx:xs.length≤1048576):FCall Tryz.prog 135 [.rsl (.int .i64) xs] [] (.sl 10000) [.row 10000 2 1 (.int .i64) xs []]:=by
 refine FCall.intro (nt:=6) ti_ok mixed MS Tryz.func135 rfl rfl rfl rfl rfl rfl ?_;refine aI (by show 0+xs.length≤_;omega) ?_;refine fin [(10000,5)] (aI rfl ?_);exact⟨⟨rfl,nP⟩,trivial⟩
theorem JG:FCall Tryz.prog 135 [.raw (.slice none 0 0)] [] (.sl 10000) [.row 10000 2 1 (.int .i64) [] []]:=FCall.of_nil (Rt [] (by simp))
theorem JH(ds:List Int)(hd:ds.length≤1048576):FCall Tryz.prog 135 [.sl 10000] [.row 10000 2 1 (.int .i64) ds []] (.sl 10001) [.row 10001 2 1 (.int .i64) ds [],.row 10000 2 1 (.int .i64) ds []]:=
 FCall.of_f (ts2:=[.row 10001 2 1 (.int .i64) ds []]) ti_ok [0] MS (Rt ds hd) rfl rfl rfl
theorem FI:callOk Tryz.prog 88=true:=by kernel_rfl
theorem DN(x:NAgent)(h1:x.2.2.2.1.length≤1048576)(h2:x.2.2.2.2.length≤1048576):FCall Tryz.prog 88 [.rp uAgent x] [] (.agg [.int .i64 x.1,.int .i64 x.2.1,.int .i64 x.2.2.1,.sl 10000,.sl 10001]) [.row 10000 2 1 (.int .i64) x.2.2.2.1 [],.row 10001 102 2 uPort x.2.2.2.2 []]:=by
 refine FCall.intro (nt:=27) ti_ok mixed FI Tryz.func88 rfl rfl rfl rfl rfl rfl ?_;refine Or.inr (eI _ (eI _ (aI (Rt _ h1) ?_)));refine aI (by show 0+x.2.2.2.2.length≤_;omega) ?_;refine aI (by kernel_rfl) ?_;refine fin [(10000,19),(10001,25)] (aI rfl ?_);exact⟨⟨rfl,nP⟩,⟨rfl,nP⟩,trivial⟩
theorem uG(xs:List NAgent)(us:List Value)(i:Int)(h1:(agAt xs i).2.2.2.1.length≤1048576)(h2:(agAt xs i).2.2.2.2.length≤1048576):FCall Tryz.prog 88 [.ep 10000 5 i 0] [.row 10000 131 5 uAgent xs us] (.agg [.int .i64 (agAt xs i).1,.int .i64 (agAt xs i).2.1,.int .i64 (agAt xs i).2.2.1,.sl 10001,.sl 10002]) [.row 10001 2 1 (.int .i64) (agAt xs i).2.2.2.1 [],.row 10002 102 2 uPort (agAt xs i).2.2.2.2 [],.row 10000 131 5 uAgent xs us]:=
 FCall.of_f (ts2:=[.row 10001 2 1 (.int .i64) (agAt xs i).2.2.2.1 [],.row 10002 102 2 uPort (agAt xs i).2.2.2.2 []]) ti_ok [0] FI (DN (agAt xs i) h1 h2) rfl rfl rfl
abbrev tA(xs:List NAgent)(us:List Value):List Tok:=[.cel 10000 30 [.sl 10001],.row 10001 131 5 uAgent xs us]
abbrev N8(g:Nat)(xs:List NAgent)(us:List Value):List Tok:=[.cel 10000 30 [.sl g],.row g 131 5 uAgent xs us]
theorem BJ(xs:List NAgent)(us:List Value)(p q:NPort)(hp:PortIn xs p)(hq:PortIn xs q):FCall Tryz.prog 178 [.ptr 10000 0,vP p,vP q] (tA xs us) (.tup []) (tA (aR xs p q) us):=by
 refine FCall.expose yI ?_;intro us' hpre hlen
 skip
 have hq':PortIn (ay xs p q) q:=hq.set;obtain⟨p1,p2,p3,p4⟩:=hp;obtain⟨q1,q2,q3,q4⟩:=hq';have q2':q.1<(xs.length:Nat):=by rwa[bn]at q2
 refine FCall.intro (nt:=32) ti_ok mixed yI Tryz.func178 rfl rfl rfl rfl rfl rfl ?_;refine aI ⟨p1,p2⟩ ?_;refine aI (oG hlen p1 p2) ?_;refine aI ⟨p3,p4⟩ ?_;refine eI 10001 (aI ⟨⟨p1,p2,nU hlen p1 p2 (by decide)⟩,p3,p4⟩ ?_);refine aI (by kernel_rfl) ?_;refine aI ⟨q1,q2⟩ ?_;refine aI (oG hlen q1 q2') ?_;refine aI ⟨q3,q4⟩ ?_;refine eI 10001 (aI ⟨⟨q1,q2,nU hlen q1 q2' (by decide)⟩,q3,q4⟩ ?_);refine aI (by kernel_rfl) ?_;refine fin [] (aI rfl ?_);exact⟨trivial,⟨rfl,trivial⟩,⟨rfl,hpre⟩,trivial⟩
theorem M5(xs:List NAgent)(us:List Value)(p:NPort)(hp:PortIn xs p):FCall Tryz.prog 124 [.ptr 10000 0,vP p] (tA xs us) (vP (peerN xs p)) (tA xs us):=
 FCall.of_q ti_ok [61,0] DJ (peerS xs p hp) rfl
theorem moveA(xs:List NAgent)(us:List Value)(p q:NPort)(hA:AllIn xs)(hp:PortIn xs p)(hq:PortIn xs q):FCall Tryz.prog 141 [.ptr 10000 0,vP p,vP q] (tA xs us) (.tup []) (tA (bG xs p q) us):=by
 have hl:=BJ xs us q (peerN xs p) hq (hA p hp);rw[qw hq (hA p hp)]at hl;refine FCall.intro (nt:=12) ti_ok mixed Jz Tryz.func141 rfl rfl rfl rfl rfl rfl ?_;refine Or.inr (eI _ (eI _ (aI (M5 xs us p hp) ?_)));refine Or.inr (eI _ (eI _ (aI hl ?_)));refine aI (by kernel_rfl) ?_;refine fin [] (aI rfl ?_);exact⟨trivial,⟨rfl,trivial⟩,⟨rfl,pR _⟩,trivial⟩
theorem Ji(xs:List NAgent)(us:List Value)(p q:NPort)(hp:PortIn xs p)(hq:PortIn xs q)(hr:PortIn xs (peerN xs p))(hs:PortIn xs (peerN xs q)):FCall Tryz.prog 138 [.ptr 10000 0,vP p,vP q] (tA xs us) (.tup []) (tA (aB xs p q) us):=by
 refine FCall.intro (nt:=21) ti_ok mixed Jy Tryz.func138 rfl rfl rfl rfl rfl rfl ?_;refine Or.inr (eI _ (eI _ (aI (M5 xs us p hp) ?_)));refine Or.inr (eI _ (eI _ (aI (M5 xs us q hq) ?_)));refine aI ⟨by kernel_rfl,rfl⟩ ?_;refine aI (fun h1=> ?_) (fun h1=> ?_)
 ·refine Or.inr (eI _ (eI _ (aI (BJ xs us (peerN xs p) (peerN xs q) hr hs) ?_)));refine fin [] (aI rfl ?_);refine⟨trivial,⟨rfl,trivial⟩,⟨?_,pR _⟩,trivial⟩;have h1:(!dO [(peerN xs p).1,(peerN xs p).2] [q.1,q.2])=true:=h1
  have h2:((peerN xs p).1==q.1&&(peerN xs p).2==q.2)=false:=by
   cases hc:((peerN xs p).1==q.1&&(peerN xs p).2==q.2)with
   |false=>rfl
   |true=>simp[dO,hc]at h1
  show aR xs (peerN xs p) (peerN xs q)=_;unfold aB;rw[h2];rfl
 ·refine fin [] (aI rfl ?_);refine⟨trivial,⟨rfl,trivial⟩,⟨?_,pR _⟩,trivial⟩;have h1:(!dO [(peerN xs p).1,(peerN xs p).2] [q.1,q.2])=false:=h1;have h2:((peerN xs p).1==q.1&&(peerN xs p).2==q.2)=true:=by simpa[dO]using h1
  show xs=_;unfold aB;rw[h2];rfl
theorem iY(xs:List NAgent)(us:List Value)(a:Int)(ha:0≤a∧a<(xs.length:Nat)):FCall Tryz.prog 145 [.ptr 10000 0,.int .i64 a] (tA xs us) (.tup []) (tA (aK xs a) []):=by
 refine FCall.intro (nt:=11) ti_ok mixed BS Tryz.func145 rfl rfl rfl rfl rfl rfl ?_;refine aI ha ?_;refine fin [] (aI rfl ?_);exact⟨trivial,⟨rfl,trivial⟩,⟨rfl,nP⟩,trivial⟩
theorem qb(xs:List NAgent)(us:List Value)(k l v:Int)(n:Nat)(hl:xs.length≤1000000)(hn:n≤1000000):FCall Tryz.prog 140 [.ptr 10000 0,.int .i64 k,.int .i64 l,.int .i64 v,.raw (.slice none 0 0),.int .i64 (n:Nat)] (tA xs us) (.int .i64 (xs.length:Nat)) (N8 10002 (xs++[aJ k l v [] n]) us):=by
 refine FCall.intro (nt:=48) ti_ok mixed DI Tryz.func140 rfl rfl rfl rfl rfl rfl ?_;refine Or.inr (eI _ (eI _ (aI JG ?_)))
 refine lp Nat (fun j=>[(14,.int .i64 ((n:Nat)-(j:Nat)))])
  (fun j=>match j with|0=>[.cel 13 131 [.int .i64 k,.int .i64 l,.int .i64 v,.sl 19,.raw (.slice none 0 0)],.cel 10000 30 [.sl 10001],.row 10001 131 5 uAgent xs us,.row 19 2 1 (.int .i64) [] []]|j+1=>[.cel 13 131 [.int .i64 k,.int .i64 l,.int .i64 v,.sl 19,.sl 20001],.cel 10000 30 [.sl 10001],.row 10001 131 5 uAgent xs us,.row 19 2 1 (.int .i64) [] [],.row 20001 102 2 uPort (List.replicate (j+1) (0,0)) []])
  (fun j=>n-j) (fun j=>j≤n) 0 (Nat.zero_le _) ?_ ?_
 ·exact hd [] rfl (aI (aI (Int.sub_zero _).symm rfl) trivial) ⟨trivial,⟨⟨rfl,rfl⟩,⟨rfl,rfl⟩,⟨rfl,rfl⟩,rfl,rfl,trivial⟩,trivial,⟨rfl,trivial⟩,⟨rfl,pR _⟩,⟨rfl,nP⟩,trivial⟩
 intro j hj;have hwr:IntKind.i64.wrap ((n:Nat)-(j:Nat)-1)=(n:Nat)-((j+1:Nat):Int):=by rw[IntWalk.i64_in _ (by omega)];omega
 cases j with
 |zero=>
  refine aI (fun q1=> ?_) (fun q1=> ?_)
  ·have hlt:0<n:=by have q2:decide ((0:Int)<(n:Nat)-((0:Nat):Int))=true:=q1;simp at q2;omega
   refine aI (by show 1≤1073741824;omega) ?_;refine lp_next 1 (by omega) ?_ ?_
   ·exact hd [(20001,30)] rfl (aI (aI hwr rfl) trivial) ⟨trivial,⟨⟨rfl,rfl⟩,⟨rfl,rfl⟩,⟨rfl,rfl⟩,rfl,rfl,trivial⟩,trivial,⟨rfl,trivial⟩,⟨rfl,pR _⟩,⟨rfl,nP⟩,⟨rfl,nP⟩,trivial⟩
   ·show n-1<n-0;omega
  ·have hn0:n=0:=by have q2:decide ((0:Int)<(n:Nat)-((0:Nat):Int))=false:=q1;simp at q2;omega
   refine aI (by show xs.length+1≤_;omega) ?_;refine aI (by kernel_rfl) ?_;refine fin [(10002,39)] (aI ?_ ?_)
   ·show IntKind.i64.wrap (((xs++[_]).length:Nat)-1)=((xs.length:Nat):Int)∧IntKind.i64=IntKind.i64;rw[List.length_append,List.length_singleton,IntWalk.i64_in _ (by omega)];exact⟨by omega,rfl⟩
   ·refine⟨trivial,⟨rfl,trivial⟩,⟨?_,pR _⟩,trivial⟩;show xs++[(k,l,v,[],[])]=xs++[aJ k l v [] n];unfold aJ;rw[hn0];rfl
 |succ j=>
  refine aI (fun q1=> ?_) (fun q1=> ?_)
  ·have hlt:j+1<n:=by have q2:decide ((0:Int)<(n:Nat)-((j+1:Nat):Int))=true:=q1;simp at q2;omega
   refine aI (by show(List.replicate (j+1) ((0:Int),(0:Int))).length+1≤1073741824;rw[List.length_replicate];omega) ?_;refine lp_next (j+2) (by omega) ?_ ?_
   ·refine hd [(20001,30)] rfl (aI (aI hwr rfl) trivial) ⟨trivial,⟨⟨rfl,rfl⟩,⟨rfl,rfl⟩,⟨rfl,rfl⟩,rfl,rfl,trivial⟩,trivial,⟨rfl,trivial⟩,⟨rfl,pR _⟩,⟨rfl,nP⟩,⟨?_,nP⟩,trivial⟩;show List.replicate (j+1) ((0:Int),(0:Int))++[(0,0)]=List.replicate (j+1+1) (0,0);rw[List.replicate_succ' (n:=j+1)]
   ·show n-(j+2)<n-(j+1);omega
  ·have hn0:n=j+1:=by have q2:decide ((0:Int)<(n:Nat)-((j+1:Nat):Int))=false:=q1;simp at q2;omega
   refine aI (by show xs.length+1≤_;omega) ?_;refine aI (by kernel_rfl) ?_;refine fin [(10002,39)] (aI ?_ ?_)
   ·show IntKind.i64.wrap (((xs++[_]).length:Nat)-1)=((xs.length:Nat):Int)∧IntKind.i64=IntKind.i64;rw[List.length_append,List.length_singleton,IntWalk.i64_in _ (by omega)];exact⟨by omega,rfl⟩
   ·refine⟨trivial,⟨rfl,trivial⟩,⟨?_,pR _⟩,trivial⟩;show xs++[(k,l,v,[],List.replicate (j+1) (0,0))]=xs++[aJ k l v [] n];unfold aJ;rw[hn0]
theorem CF(xs:List NAgent)(us:List Value)(k l v:Int)(n:Nat)(ds:List Int)(hl:xs.length≤1000000)(hn:n≤1000000)(hd0:ds.length≤1000000):FCall Tryz.prog 140 [.ptr 10000 0,.int .i64 k,.int .i64 l,.int .i64 v,.sl 10002,.int .i64 (n:Nat)] (tA xs us++[.row 10002 2 1 (.int .i64) ds []]) (.int .i64 (xs.length:Nat)) (N8 10003 (xs++[aJ k l v ds n]) us++[.row 10002 2 1 (.int .i64) ds []]):=by
 refine FCall.intro (nt:=48) ti_ok mixed DI Tryz.func140 rfl rfl rfl rfl rfl rfl ?_;refine Or.inr (eI _ (eI _ (aI (JH ds (by omega)) ?_)))
 refine lp Nat (fun j=>[(14,.int .i64 ((n:Nat)-(j:Nat)))])
  (fun j=>match j with|0=>[.cel 13 131 [.int .i64 k,.int .i64 l,.int .i64 v,.sl 19,.raw (.slice none 0 0)],.cel 10000 30 [.sl 10001],.row 10001 131 5 uAgent xs us,.row 10002 2 1 (.int .i64) ds [],.row 19 2 1 (.int .i64) ds []]|j+1=>[.cel 13 131 [.int .i64 k,.int .i64 l,.int .i64 v,.sl 19,.sl 20001],.cel 10000 30 [.sl 10001],.row 10001 131 5 uAgent xs us,.row 10002 2 1 (.int .i64) ds [],.row 19 2 1 (.int .i64) ds [],.row 20001 102 2 uPort (List.replicate (j+1) (0,0)) []])
  (fun j=>n-j) (fun j=>j≤n) 0 (Nat.zero_le _) ?_ ?_
 ·exact hd [] rfl (aI (aI (Int.sub_zero _).symm rfl) trivial) ⟨trivial,⟨⟨rfl,rfl⟩,⟨rfl,rfl⟩,⟨rfl,rfl⟩,rfl,rfl,trivial⟩,trivial,⟨rfl,trivial⟩,⟨rfl,pR _⟩,⟨rfl,nP⟩,⟨rfl,nP⟩,trivial⟩
 intro j hj;have hwr:IntKind.i64.wrap ((n:Nat)-(j:Nat)-1)=(n:Nat)-((j+1:Nat):Int):=by rw[IntWalk.i64_in _ (by omega)];omega
 cases j with
 |zero=>
  refine aI (fun q1=> ?_) (fun q1=> ?_)
  ·have hlt:0<n:=by have q2:decide ((0:Int)<(n:Nat)-((0:Nat):Int))=true:=q1;simp at q2;omega
   refine aI (by show 1≤1073741824;omega) ?_;refine lp_next 1 (by omega) ?_ ?_
   ·exact hd [(20001,30)] rfl (aI (aI hwr rfl) trivial) ⟨trivial,⟨⟨rfl,rfl⟩,⟨rfl,rfl⟩,⟨rfl,rfl⟩,rfl,rfl,trivial⟩,trivial,⟨rfl,trivial⟩,⟨rfl,pR _⟩,⟨rfl,nP⟩,⟨rfl,nP⟩,⟨rfl,nP⟩,trivial⟩
   ·show n-1<n-0;omega
  ·have hn0:n=0:=by have q2:decide ((0:Int)<(n:Nat)-((0:Nat):Int))=false:=q1;simp at q2;omega
   refine aI (by show xs.length+1≤_;omega) ?_;refine aI (by kernel_rfl) ?_;refine fin [(10003,39)] (aI ?_ ?_)
   ·show IntKind.i64.wrap (((xs++[_]).length:Nat)-1)=((xs.length:Nat):Int)∧IntKind.i64=IntKind.i64;rw[List.length_append,List.length_singleton,IntWalk.i64_in _ (by omega)];exact⟨by omega,rfl⟩
   ·refine⟨trivial,⟨rfl,trivial⟩,⟨?_,pR _⟩,⟨rfl,nP⟩,trivial⟩;show xs++[(k,l,v,ds,[])]=xs++[aJ k l v ds n];unfold aJ;rw[hn0];rfl
 |succ j=>
  refine aI (fun q1=> ?_) (fun q1=> ?_)
  ·have hlt:j+1<n:=by have q2:decide ((0:Int)<(n:Nat)-((j+1:Nat):Int))=true:=q1;simp at q2;omega
   refine aI (by show(List.replicate (j+1) ((0:Int),(0:Int))).length+1≤1073741824;rw[List.length_replicate];omega) ?_;refine lp_next (j+2) (by omega) ?_ ?_
   ·refine hd [(20001,30)] rfl (aI (aI hwr rfl) trivial) ⟨trivial,⟨⟨rfl,rfl⟩,⟨rfl,rfl⟩,⟨rfl,rfl⟩,rfl,rfl,trivial⟩,trivial,⟨rfl,trivial⟩,⟨rfl,pR _⟩,⟨rfl,nP⟩,⟨rfl,nP⟩,⟨?_,nP⟩,trivial⟩;show List.replicate (j+1) ((0:Int),(0:Int))++[(0,0)]=List.replicate (j+1+1) (0,0);rw[List.replicate_succ' (n:=j+1)]
   ·show n-(j+2)<n-(j+1);omega
  ·have hn0:n=j+1:=by have q2:decide ((0:Int)<(n:Nat)-((j+1:Nat):Int))=false:=q1;simp at q2;omega
   refine aI (by show xs.length+1≤_;omega) ?_;refine aI (by kernel_rfl) ?_;refine fin [(10003,39)] (aI ?_ ?_)
   ·show IntKind.i64.wrap (((xs++[_]).length:Nat)-1)=((xs.length:Nat):Int)∧IntKind.i64=IntKind.i64;rw[List.length_append,List.length_singleton,IntWalk.i64_in _ (by omega)];exact⟨by omega,rfl⟩
   ·refine⟨trivial,⟨rfl,trivial⟩,⟨?_,pR _⟩,⟨rfl,nP⟩,trivial⟩;show xs++[(k,l,v,ds,List.replicate (j+1) (0,0))]=xs++[aJ k l v ds n];unfold aJ;rw[hn0]
abbrev tB(xs:List NAgent)(us:List Value)(pk:Int)(tr:List Int):List Tok:=[.cel 10000 66 [.sl 10001,.sl 10002,.int .i64 pk],.row 10001 131 5 uAgent xs us,.row 10002 2 1 (.int .i64) tr []]
abbrev tBn(g:Nat)(xs:List NAgent)(us:List Value)(pk:Int)(tr:List Int):List Tok:=[.cel 10000 66 [.sl g,.sl 10002,.int .i64 pk],.row g 131 5 uAgent xs us,.row 10002 2 1 (.int .i64) tr []]
theorem BK(xs:List NAgent)(us:List Value)(pk:Int)(tr:List Int)(p q:NPort)(hp:PortIn xs p)(hq:PortIn xs q):FCall Tryz.prog 178 [.ptr 10000 0,vP p,vP q] (tB xs us pk tr) (.tup []) (tB (aR xs p q) us pk tr):=by
 refine FCall.expose yI ?_;intro us' hpre hlen;intro us2 hpre2 hlen2;have hq':PortIn (ay xs p q) q:=hq.set;obtain⟨p1,p2,p3,p4⟩:=hp;obtain⟨q1,q2,q3,q4⟩:=hq';have q2':q.1<(xs.length:Nat):=by rwa[bn]at q2
 refine FCall.intro (nt:=32) ti_ok mixed yI Tryz.func178 rfl rfl rfl rfl rfl rfl ?_;refine aI ⟨p1,p2⟩ ?_;refine aI (oG hlen p1 p2) ?_;refine aI ⟨p3,p4⟩ ?_;refine eI 10001 (aI ⟨⟨p1,p2,nU hlen p1 p2 (by decide)⟩,p3,p4⟩ ?_);refine aI (by kernel_rfl) ?_;refine aI ⟨q1,q2⟩ ?_;refine aI (oG hlen q1 q2') ?_;refine aI ⟨q3,q4⟩ ?_;refine eI 10001 (aI ⟨⟨q1,q2,nU hlen q1 q2' (by decide)⟩,q3,q4⟩ ?_);refine aI (by kernel_rfl) ?_;refine fin [] (aI rfl ?_);exact⟨trivial,⟨rfl,rfl,⟨rfl,rfl⟩,trivial⟩,⟨rfl,hpre⟩,⟨rfl,nP⟩,trivial⟩
theorem M6(xs:List NAgent)(us:List Value)(pk:Int)(tr:List Int)(p:NPort)(hp:PortIn xs p):FCall Tryz.prog 124 [.ptr 10000 0,vP p] (tB xs us pk tr) (vP (peerN xs p)) (tB xs us pk tr):=
 FCall.of_q ti_ok [61,0] DJ (peerS xs p hp) rfl
theorem moveB(xs:List NAgent)(us:List Value)(pk:Int)(tr:List Int)(p q:NPort)(hA:AllIn xs)(hp:PortIn xs p)(hq:PortIn xs q):FCall Tryz.prog 141 [.ptr 10000 0,vP p,vP q] (tB xs us pk tr) (.tup []) (tB (bG xs p q) us pk tr):=by
 have hl:=BK xs us pk tr q (peerN xs p) hq (hA p hp);rw[qw hq (hA p hp)]at hl;refine FCall.intro (nt:=12) ti_ok mixed Jz Tryz.func141 rfl rfl rfl rfl rfl rfl ?_;refine Or.inr (eI _ (eI _ (aI (M6 xs us pk tr p hp) ?_)));refine Or.inr (eI _ (eI _ (aI hl ?_)));refine aI (by kernel_rfl) ?_;refine fin [] (aI rfl ?_);exact⟨trivial,⟨rfl,rfl,⟨rfl,rfl⟩,trivial⟩,⟨rfl,pR _⟩,⟨rfl,nP⟩,trivial⟩
theorem Jj(xs:List NAgent)(us:List Value)(pk:Int)(tr:List Int)(p q:NPort)(hp:PortIn xs p)(hq:PortIn xs q)(hr:PortIn xs (peerN xs p))(hs:PortIn xs (peerN xs q)):FCall Tryz.prog 138 [.ptr 10000 0,vP p,vP q] (tB xs us pk tr) (.tup []) (tB (aB xs p q) us pk tr):=by
 refine FCall.intro (nt:=21) ti_ok mixed Jy Tryz.func138 rfl rfl rfl rfl rfl rfl ?_;refine Or.inr (eI _ (eI _ (aI (M6 xs us pk tr p hp) ?_)));refine Or.inr (eI _ (eI _ (aI (M6 xs us pk tr q hq) ?_)));refine aI ⟨by kernel_rfl,rfl⟩ ?_;refine aI (fun h1=> ?_) (fun h1=> ?_)
 ·refine Or.inr (eI _ (eI _ (aI (BK xs us pk tr (peerN xs p) (peerN xs q) hr hs) ?_)));refine fin [] (aI rfl ?_);refine⟨trivial,⟨rfl,rfl,⟨rfl,rfl⟩,trivial⟩,⟨?_,pR _⟩,⟨rfl,nP⟩,trivial⟩;have h1:(!dO [(peerN xs p).1,(peerN xs p).2] [q.1,q.2])=true:=h1
  have h2:((peerN xs p).1==q.1&&(peerN xs p).2==q.2)=false:=by
   cases hc:((peerN xs p).1==q.1&&(peerN xs p).2==q.2)with
   |false=>rfl
   |true=>simp[dO,hc]at h1
  show aR xs (peerN xs p) (peerN xs q)=_;unfold aB;rw[h2];rfl
 ·refine fin [] (aI rfl ?_);refine⟨trivial,⟨rfl,rfl,⟨rfl,rfl⟩,trivial⟩,⟨?_,pR _⟩,⟨rfl,nP⟩,trivial⟩;have h1:(!dO [(peerN xs p).1,(peerN xs p).2] [q.1,q.2])=false:=h1;have h2:((peerN xs p).1==q.1&&(peerN xs p).2==q.2)=true:=by simpa[dO]using h1
  show xs=_;unfold aB;rw[h2];rfl
theorem iZ(xs:List NAgent)(us:List Value)(pk:Int)(tr:List Int)(a:Int)(ha:0≤a∧a<(xs.length:Nat)):FCall Tryz.prog 145 [.ptr 10000 0,.int .i64 a] (tB xs us pk tr) (.tup []) (tB (aK xs a) [] pk tr):=by
 refine FCall.intro (nt:=11) ti_ok mixed BS Tryz.func145 rfl rfl rfl rfl rfl rfl ?_;refine aI ha ?_;refine fin [] (aI rfl ?_);exact⟨trivial,⟨rfl,rfl,⟨rfl,rfl⟩,trivial⟩,⟨rfl,nP⟩,⟨rfl,nP⟩,trivial⟩
theorem qg(xs:List NAgent)(us:List Value)(pk:Int)(tr:List Int)(k l v:Int)(n:Nat)(hl:xs.length≤1000000)(hn:n≤1000000):FCall Tryz.prog 140 [.ptr 10000 0,.int .i64 k,.int .i64 l,.int .i64 v,.raw (.slice none 0 0),.int .i64 (n:Nat)] (tB xs us pk tr) (.int .i64 (xs.length:Nat)) (tBn 10003 (xs++[aJ k l v [] n]) us pk tr):=by
 refine FCall.intro (nt:=48) ti_ok mixed DI Tryz.func140 rfl rfl rfl rfl rfl rfl ?_;refine Or.inr (eI _ (eI _ (aI JG ?_)))
 refine lp Nat (fun j=>[(14,.int .i64 ((n:Nat)-(j:Nat)))])
  (fun j=>match j with|0=>[.cel 13 131 [.int .i64 k,.int .i64 l,.int .i64 v,.sl 19,.raw (.slice none 0 0)],.cel 10000 66 [.sl 10001,.sl 10002,.int .i64 pk],.row 10001 131 5 uAgent xs us,.row 10002 2 1 (.int .i64) tr [],.row 19 2 1 (.int .i64) [] []]|j+1=>[.cel 13 131 [.int .i64 k,.int .i64 l,.int .i64 v,.sl 19,.sl 20001],.cel 10000 66 [.sl 10001,.sl 10002,.int .i64 pk],.row 10001 131 5 uAgent xs us,.row 10002 2 1 (.int .i64) tr [],.row 19 2 1 (.int .i64) [] [],.row 20001 102 2 uPort (List.replicate (j+1) (0,0)) []])
  (fun j=>n-j) (fun j=>j≤n) 0 (Nat.zero_le _) ?_ ?_
 ·exact hd [] rfl (aI (aI (Int.sub_zero _).symm rfl) trivial) ⟨trivial,⟨⟨rfl,rfl⟩,⟨rfl,rfl⟩,⟨rfl,rfl⟩,rfl,rfl,trivial⟩,trivial,⟨rfl,rfl,⟨rfl,rfl⟩,trivial⟩,⟨rfl,pR _⟩,⟨rfl,nP⟩,⟨rfl,nP⟩,trivial⟩
 intro j hj;have hwr:IntKind.i64.wrap ((n:Nat)-(j:Nat)-1)=(n:Nat)-((j+1:Nat):Int):=by rw[IntWalk.i64_in _ (by omega)];omega
 cases j with
 |zero=>
  refine aI (fun q1=> ?_) (fun q1=> ?_)
  ·have hlt:0<n:=by have q2:decide ((0:Int)<(n:Nat)-((0:Nat):Int))=true:=q1;simp at q2;omega
   refine aI (by show 1≤1073741824;omega) ?_;refine lp_next 1 (by omega) ?_ ?_
   ·exact hd [(20001,30)] rfl (aI (aI hwr rfl) trivial) ⟨trivial,⟨⟨rfl,rfl⟩,⟨rfl,rfl⟩,⟨rfl,rfl⟩,rfl,rfl,trivial⟩,trivial,⟨rfl,rfl,⟨rfl,rfl⟩,trivial⟩,⟨rfl,pR _⟩,⟨rfl,nP⟩,⟨rfl,nP⟩,⟨rfl,nP⟩,trivial⟩
   ·show n-1<n-0;omega
  ·have hn0:n=0:=by have q2:decide ((0:Int)<(n:Nat)-((0:Nat):Int))=false:=q1;simp at q2;omega
   refine aI (by show xs.length+1≤_;omega) ?_;refine aI (by kernel_rfl) ?_;refine fin [(10003,39)] (aI ?_ ?_)
   ·show IntKind.i64.wrap (((xs++[_]).length:Nat)-1)=((xs.length:Nat):Int)∧IntKind.i64=IntKind.i64;rw[List.length_append,List.length_singleton,IntWalk.i64_in _ (by omega)];exact⟨by omega,rfl⟩
   ·refine⟨trivial,⟨rfl,rfl,⟨rfl,rfl⟩,trivial⟩,⟨?_,pR _⟩,⟨rfl,nP⟩,trivial⟩;show xs++[(k,l,v,[],[])]=xs++[aJ k l v [] n];unfold aJ;rw[hn0];rfl
 |succ j=>
  refine aI (fun q1=> ?_) (fun q1=> ?_)
  ·have hlt:j+1<n:=by have q2:decide ((0:Int)<(n:Nat)-((j+1:Nat):Int))=true:=q1;simp at q2;omega
   refine aI (by show(List.replicate (j+1) ((0:Int),(0:Int))).length+1≤1073741824;rw[List.length_replicate];omega) ?_;refine lp_next (j+2) (by omega) ?_ ?_
   ·refine hd [(20001,30)] rfl (aI (aI hwr rfl) trivial) ⟨trivial,⟨⟨rfl,rfl⟩,⟨rfl,rfl⟩,⟨rfl,rfl⟩,rfl,rfl,trivial⟩,trivial,⟨rfl,rfl,⟨rfl,rfl⟩,trivial⟩,⟨rfl,pR _⟩,⟨rfl,nP⟩,⟨rfl,nP⟩,⟨?_,nP⟩,trivial⟩;show List.replicate (j+1) ((0:Int),(0:Int))++[(0,0)]=List.replicate (j+1+1) (0,0);rw[List.replicate_succ' (n:=j+1)]
   ·show n-(j+2)<n-(j+1);omega
  ·have hn0:n=j+1:=by have q2:decide ((0:Int)<(n:Nat)-((j+1:Nat):Int))=false:=q1;simp at q2;omega
   refine aI (by show xs.length+1≤_;omega) ?_;refine aI (by kernel_rfl) ?_;refine fin [(10003,39)] (aI ?_ ?_)
   ·show IntKind.i64.wrap (((xs++[_]).length:Nat)-1)=((xs.length:Nat):Int)∧IntKind.i64=IntKind.i64;rw[List.length_append,List.length_singleton,IntWalk.i64_in _ (by omega)];exact⟨by omega,rfl⟩
   ·refine⟨trivial,⟨rfl,rfl,⟨rfl,rfl⟩,trivial⟩,⟨?_,pR _⟩,⟨rfl,nP⟩,trivial⟩;show xs++[(k,l,v,[],List.replicate (j+1) (0,0))]=xs++[aJ k l v [] n];unfold aJ;rw[hn0]
theorem CG(xs:List NAgent)(us:List Value)(pk:Int)(tr:List Int)(k l v:Int)(n:Nat)(ds:List Int)(hl:xs.length≤1000000)(hn:n≤1000000)(hd0:ds.length≤1000000):FCall Tryz.prog 140 [.ptr 10000 0,.int .i64 k,.int .i64 l,.int .i64 v,.sl 10003,.int .i64 (n:Nat)] (tB xs us pk tr++[.row 10003 2 1 (.int .i64) ds []]) (.int .i64 (xs.length:Nat)) (tBn 10004 (xs++[aJ k l v ds n]) us pk tr++[.row 10003 2 1 (.int .i64) ds []]):=by
 refine FCall.intro (nt:=48) ti_ok mixed DI Tryz.func140 rfl rfl rfl rfl rfl rfl ?_;refine Or.inr (eI _ (eI _ (aI (JH ds (by omega)) ?_)))
 refine lp Nat (fun j=>[(14,.int .i64 ((n:Nat)-(j:Nat)))])
  (fun j=>match j with|0=>[.cel 13 131 [.int .i64 k,.int .i64 l,.int .i64 v,.sl 19,.raw (.slice none 0 0)],.cel 10000 66 [.sl 10001,.sl 10002,.int .i64 pk],.row 10001 131 5 uAgent xs us,.row 10002 2 1 (.int .i64) tr [],.row 10003 2 1 (.int .i64) ds [],.row 19 2 1 (.int .i64) ds []]|j+1=>[.cel 13 131 [.int .i64 k,.int .i64 l,.int .i64 v,.sl 19,.sl 20001],.cel 10000 66 [.sl 10001,.sl 10002,.int .i64 pk],.row 10001 131 5 uAgent xs us,.row 10002 2 1 (.int .i64) tr [],.row 10003 2 1 (.int .i64) ds [],.row 19 2 1 (.int .i64) ds [],.row 20001 102 2 uPort (List.replicate (j+1) (0,0)) []])
  (fun j=>n-j) (fun j=>j≤n) 0 (Nat.zero_le _) ?_ ?_
 ·exact hd [] rfl (aI (aI (Int.sub_zero _).symm rfl) trivial) ⟨trivial,⟨⟨rfl,rfl⟩,⟨rfl,rfl⟩,⟨rfl,rfl⟩,rfl,rfl,trivial⟩,trivial,⟨rfl,rfl,⟨rfl,rfl⟩,trivial⟩,⟨rfl,pR _⟩,⟨rfl,nP⟩,⟨rfl,nP⟩,⟨rfl,nP⟩,trivial⟩
 intro j hj;have hwr:IntKind.i64.wrap ((n:Nat)-(j:Nat)-1)=(n:Nat)-((j+1:Nat):Int):=by rw[IntWalk.i64_in _ (by omega)];omega
 cases j with
 |zero=>
  refine aI (fun q1=> ?_) (fun q1=> ?_)
  ·have hlt:0<n:=by have q2:decide ((0:Int)<(n:Nat)-((0:Nat):Int))=true:=q1;simp at q2;omega
   refine aI (by show 1≤1073741824;omega) ?_;refine lp_next 1 (by omega) ?_ ?_
   ·exact hd [(20001,30)] rfl (aI (aI hwr rfl) trivial) ⟨trivial,⟨⟨rfl,rfl⟩,⟨rfl,rfl⟩,⟨rfl,rfl⟩,rfl,rfl,trivial⟩,trivial,⟨rfl,rfl,⟨rfl,rfl⟩,trivial⟩,⟨rfl,pR _⟩,⟨rfl,nP⟩,⟨rfl,nP⟩,⟨rfl,nP⟩,⟨rfl,nP⟩,trivial⟩
   ·show n-1<n-0;omega
  ·have hn0:n=0:=by have q2:decide ((0:Int)<(n:Nat)-((0:Nat):Int))=false:=q1;simp at q2;omega
   refine aI (by show xs.length+1≤_;omega) ?_;refine aI (by kernel_rfl) ?_;refine fin [(10004,39)] (aI ?_ ?_)
   ·show IntKind.i64.wrap (((xs++[_]).length:Nat)-1)=((xs.length:Nat):Int)∧IntKind.i64=IntKind.i64;rw[List.length_append,List.length_singleton,IntWalk.i64_in _ (by omega)];exact⟨by omega,rfl⟩
   ·refine⟨trivial,⟨rfl,rfl,⟨rfl,rfl⟩,trivial⟩,⟨?_,pR _⟩,⟨rfl,nP⟩,⟨rfl,nP⟩,trivial⟩;show xs++[(k,l,v,ds,[])]=xs++[aJ k l v ds n];unfold aJ;rw[hn0];rfl
 |succ j=>
  refine aI (fun q1=> ?_) (fun q1=> ?_)
  ·have hlt:j+1<n:=by have q2:decide ((0:Int)<(n:Nat)-((j+1:Nat):Int))=true:=q1;simp at q2;omega
   refine aI (by show(List.replicate (j+1) ((0:Int),(0:Int))).length+1≤1073741824;rw[List.length_replicate];omega) ?_;refine lp_next (j+2) (by omega) ?_ ?_
   ·refine hd [(20001,30)] rfl (aI (aI hwr rfl) trivial) ⟨trivial,⟨⟨rfl,rfl⟩,⟨rfl,rfl⟩,⟨rfl,rfl⟩,rfl,rfl,trivial⟩,trivial,⟨rfl,rfl,⟨rfl,rfl⟩,trivial⟩,⟨rfl,pR _⟩,⟨rfl,nP⟩,⟨rfl,nP⟩,⟨rfl,nP⟩,⟨?_,nP⟩,trivial⟩;show List.replicate (j+1) ((0:Int),(0:Int))++[(0,0)]=List.replicate (j+1+1) (0,0);rw[List.replicate_succ' (n:=j+1)]
   ·show n-(j+2)<n-(j+1);omega
  ·have hn0:n=j+1:=by have q2:decide ((0:Int)<(n:Nat)-((j+1:Nat):Int))=false:=q1;simp at q2;omega
   refine aI (by show xs.length+1≤_;omega) ?_;refine aI (by kernel_rfl) ?_;refine fin [(10004,39)] (aI ?_ ?_)
   ·show IntKind.i64.wrap (((xs++[_]).length:Nat)-1)=((xs.length:Nat):Int)∧IntKind.i64=IntKind.i64;rw[List.length_append,List.length_singleton,IntWalk.i64_in _ (by omega)];exact⟨by omega,rfl⟩
   ·refine⟨trivial,⟨rfl,rfl,⟨rfl,rfl⟩,trivial⟩,⟨?_,pR _⟩,⟨rfl,nP⟩,⟨rfl,nP⟩,trivial⟩;show xs++[(k,l,v,ds,List.replicate (j+1) (0,0))]=xs++[aJ k l v ds n];unfold aJ;rw[hn0]
theorem JB:callOk Tryz.prog 142=true:=by kernel_rfl
theorem BQ:callOk Tryz.prog 143=true:=by kernel_rfl
theorem ML:callOk Tryz.prog 139=true:=by kernel_rfl
theorem FH:callOk Tryz.prog 175=true:=by kernel_rfl
theorem I9(x:NAgent):QCall Tryz.prog 175 [.rp uAgent x] (.int .i64 (jW x)):=by
 refine QCall.intro (nt:=14) ti_ok mixed FH Tryz.func175 rfl rfl rfl rfl rfl ?_;refine aI (fun q1=> ?_) (fun q1=> ?_)
 ·refine⟨?_,rfl⟩;unfold jW;rw[show(x.1==9)=true from q1];rfl
 ·refine⟨?_,rfl⟩;unfold jW;rw[show(x.1==9)=false from q1];rfl
theorem I8(xs:List NAgent)(us:List Value)(i:Int):FCall Tryz.prog 175 [.ep 10000 5 i 0] [.row 10000 131 5 uAgent xs us] (.int .i64 (jW (agAt xs i))) [.row 10000 131 5 uAgent xs us]:=
 FCall.of_q ti_ok [0] FH (I9 (agAt xs i)) rfl
theorem Td(xs:List NAgent)(us:List Value)(x y:Int)(hA:AllIn xs)(h0:PortIn xs (0,0))(hl:xs.length≤900000)(hx:0≤x∧x<(xs.length:Nat))(h1:PortIn xs (y,1))(hk:(agAt xs y).1=7∨(agAt xs y).1=8)(h2:(agAt xs y).1=7→PortIn xs (y,2))(h3:(agAt xs y).1≠7→0<(agAt xs y).2.2.2.1.length)(hdd:(agAt xs y).2.2.2.1.length≤1000000)(hp:(agAt xs y).2.2.2.2.length≤1000):
  FCall Tryz.prog 142 [.ptr 10000 0,.int .i64 x,.int .i64 y] (tA xs us) (.tup []) (N8 10002 (aM xs x y) us):=by
 have hy:0≤y∧y<(xs.length:Nat):=⟨h1.1,h1.2.1⟩;refine FCall.intro (nt:=64) ti_ok mixed JB Tryz.func142 rfl rfl rfl rfl rfl rfl ?_;refine aI hy ?_;refine Or.inr (eI _ (eI _ (aI (uG xs us y (by omega) (by omega)) ?_)));refine aI hx ?_;refine aI (fun q1=> ?_) (fun q1=> ?_)
 ·have q8:(agAt xs y).1=8:=by have q2:((agAt xs y).1==8)=true:=q1;simpa using q2
  have q7:(agAt xs y).1≠7:=by omega
  refine aI ⟨by decide,by have:=h3 q7;show(0:Int)<((agAt xs y).2.2.2.1.length:Nat);omega⟩ ?_;refine Or.inl (eI _ (aI (FJ _ _ _) ?_));refine Or.inr (eI _ (eI _ (aI (qb xs us 6 0 (rQ (agAt xs y).2.2.1 (fP (agAt xs y).2.2.2.1 0) (agAt xs x).2.2.1) 1 (by omega) (by omega)) ?_)));refine aI (by kernel_rfl) ?_;have hA1:=hA.add h0 6 0 (rQ (agAt xs y).2.2.1 (fP (agAt xs y).2.2.2.1 0) (agAt xs x).2.2.1) [] 1;refine Or.inl (eI _ (aI (portS y 1) ?_));refine Or.inl (eI _ (aI (portS _ 0) ?_));refine Or.inr (eI _ (eI _ (aI (moveA _ us (y,1) ((xs.length:Nat),0) hA1 h1.app (PortIn.new (by decide) (by decide))) ?_)))
  refine fin [(10002,37)] (aI rfl ?_);refine⟨trivial,⟨rfl,trivial⟩,⟨?_,pR _⟩,trivial⟩;show _=aM xs x y;unfold aM;rw[show((agAt xs y).1==7)=false by simpa using q7];rfl
 ·have q8:(agAt xs y).1≠8:=by have q2:((agAt xs y).1==8)=false:=q1;simpa using q2
  have q7:(agAt xs y).1=7:=by omega
  refine Or.inr (eI _ (eI _ (aI (CF xs us 8 (agAt xs y).2.1 (agAt xs y).2.2.1 2 [(agAt xs x).2.2.1] (by omega) (by omega) (by simp)) ?_)));have hA1:=hA.add h0 8 (agAt xs y).2.1 (agAt xs y).2.2.1 [(agAt xs x).2.2.1] 2;refine Or.inl (eI _ (aI (portS y 1) ?_));refine Or.inl (eI _ (aI (portS _ 0) ?_));refine Or.inr (eI _ (eI _ (aI (moveA (xs++[aJ 8 (agAt xs y).2.1 (agAt xs y).2.2.1 [(agAt xs x).2.2.1] 2]) us (y,1) ((xs.length:Nat),0) hA1 h1.app (PortIn.new (by decide) (by decide))) ?_)));refine Or.inl (eI _ (aI (portS y 2) ?_));refine Or.inl (eI _ (aI (portS _ 1) ?_));refine Or.inr (eI _ (eI _ (aI (moveA _ us (y,2) ((xs.length:Nat),1) (hA1.move h1.app (PortIn.new (by decide) (by decide))) ((h2 q7).app.move) ((PortIn.new (by decide) (by decide)).move)) ?_)))
  refine fin [(10002,51)] (aI rfl ?_);refine⟨trivial,⟨rfl,trivial⟩,⟨?_,pR _⟩,trivial⟩;show _=aM xs x y;unfold aM;rw[show((agAt xs y).1==7)=true by simpa using q7];rfl
theorem iB(xs:List NAgent)(us:List Value)(pk:Int)(tr:List Int)(x y:Int)(hA:AllIn xs)(h0:PortIn xs (0,0))(hl:xs.length≤900000)(hx:0≤x∧x<(xs.length:Nat))(h1:PortIn xs (y,1))(hk:(agAt xs y).1=7∨(agAt xs y).1=8)(h2:(agAt xs y).1=7→PortIn xs (y,2))(h3:(agAt xs y).1≠7→0<(agAt xs y).2.2.2.1.length)(hdd:(agAt xs y).2.2.2.1.length≤1000000)(hp:(agAt xs y).2.2.2.2.length≤1000):
  FCall Tryz.prog 142 [.ptr 10000 0,.int .i64 x,.int .i64 y] (tB xs us pk tr) (.tup []) (tBn 10003 (aM xs x y) us pk tr):=by
 have hy:0≤y∧y<(xs.length:Nat):=⟨h1.1,h1.2.1⟩;refine FCall.intro (nt:=64) ti_ok mixed JB Tryz.func142 rfl rfl rfl rfl rfl rfl ?_;refine aI hy ?_;refine Or.inr (eI _ (eI _ (aI (uG xs us y (by omega) (by omega)) ?_)));refine aI hx ?_;refine aI (fun q1=> ?_) (fun q1=> ?_)
 ·have q8:(agAt xs y).1=8:=by have q2:((agAt xs y).1==8)=true:=q1;simpa using q2
  have q7:(agAt xs y).1≠7:=by omega
  refine aI ⟨by decide,by have:=h3 q7;show(0:Int)<((agAt xs y).2.2.2.1.length:Nat);omega⟩ ?_;refine Or.inl (eI _ (aI (FJ _ _ _) ?_));refine Or.inr (eI _ (eI _ (aI (qg xs us pk tr 6 0 (rQ (agAt xs y).2.2.1 (fP (agAt xs y).2.2.2.1 0) (agAt xs x).2.2.1) 1 (by omega) (by omega)) ?_)));refine aI (by kernel_rfl) ?_;have hA1:=hA.add h0 6 0 (rQ (agAt xs y).2.2.1 (fP (agAt xs y).2.2.2.1 0) (agAt xs x).2.2.1) [] 1;refine Or.inl (eI _ (aI (portS y 1) ?_));refine Or.inl (eI _ (aI (portS _ 0) ?_));refine Or.inr (eI _ (eI _ (aI (moveB _ us pk tr (y,1) ((xs.length:Nat),0) hA1 h1.app (PortIn.new (by decide) (by decide))) ?_)))
  refine fin [(10003,37)] (aI rfl ?_);refine⟨trivial,⟨rfl,rfl,⟨rfl,rfl⟩,trivial⟩,⟨?_,pR _⟩,⟨rfl,nP⟩,trivial⟩;show _=aM xs x y;unfold aM;rw[show((agAt xs y).1==7)=false by simpa using q7];rfl
 ·have q8:(agAt xs y).1≠8:=by have q2:((agAt xs y).1==8)=false:=q1;simpa using q2
  have q7:(agAt xs y).1=7:=by omega
  refine Or.inr (eI _ (eI _ (aI (CG xs us pk tr 8 (agAt xs y).2.1 (agAt xs y).2.2.1 2 [(agAt xs x).2.2.1] (by omega) (by omega) (by simp)) ?_)));have hA1:=hA.add h0 8 (agAt xs y).2.1 (agAt xs y).2.2.1 [(agAt xs x).2.2.1] 2;refine Or.inl (eI _ (aI (portS y 1) ?_));refine Or.inl (eI _ (aI (portS _ 0) ?_));refine Or.inr (eI _ (eI _ (aI (moveB (xs++[aJ 8 (agAt xs y).2.1 (agAt xs y).2.2.1 [(agAt xs x).2.2.1] 2]) us pk tr (y,1) ((xs.length:Nat),0) hA1 h1.app (PortIn.new (by decide) (by decide))) ?_)));refine Or.inl (eI _ (aI (portS y 2) ?_));refine Or.inl (eI _ (aI (portS _ 1) ?_))
  refine Or.inr (eI _ (eI _ (aI (moveB _ us pk tr (y,2) ((xs.length:Nat),1) (hA1.move h1.app (PortIn.new (by decide) (by decide))) ((h2 q7).app.move) ((PortIn.new (by decide) (by decide)).move)) ?_)));refine fin [(10003,51)] (aI rfl ?_);refine⟨trivial,⟨rfl,rfl,⟨rfl,rfl⟩,trivial⟩,⟨?_,pR _⟩,⟨rfl,nP⟩,trivial⟩;show _=aM xs x y;unfold aM;rw[show((agAt xs y).1==7)=true by simpa using q7];rfl
theorem Oo(xs:List NAgent)(us:List Value)(x y:Int)(hA:AllIn xs)(h0:PortIn xs (0,0))(hl:xs.length≤900000)(hx:0≤x∧x<(xs.length:Nat))(hy1:PortIn xs (y,1))(h6:(agAt xs y).1=11→(agAt xs y).2.2.2.1.length=2)(hc:(agAt xs y).1≠11→0≤(agAt xs x).2.2.1∧(agAt xs x).2.2.1<((agAt xs y).2.2.2.1.length:Nat)∧(agAt xs x).1=9)(hp:(agAt xs x).2.2.2.2.length≤1000)(hp0:0<(agAt xs x).2.2.2.2.length)(hdd:(agAt xs y).2.2.2.1.length≤1000000)(hpy:(agAt xs y).2.2.2.2.length≤1000):
  FCall Tryz.prog 143 [.ptr 10000 0,.int .i64 x,.int .i64 y] (tA xs us) (.tup []) (N8 10002 (bE xs x y) us):=by
 have hy:0≤y∧y<(xs.length:Nat):=⟨hy1.1,hy1.2.1⟩;refine FCall.intro (nt:=105) ti_ok mixed BQ Tryz.func143 rfl rfl rfl rfl rfl rfl ?_;refine aI hy ?_;refine Or.inr (eI _ (eI _ (aI (uG xs us y (by omega) (by omega)) ?_)));refine aI (fun q1=> ?_) (fun q1=> ?_)
 ·have q2:(agAt xs y).1=11:=by have q2:((agAt xs y).1==11)=true:=q1;simpa using q2
  have hl2:=h6 q2;refine aI ⟨by decide,by show(1:Int)<((agAt xs y).2.2.2.1.length:Nat);omega⟩ ?_;refine aI hx ?_;refine aI (fun q3=> ?_) (fun q3=> ?_)
  ·have q4:((agAt xs x).2.2.1==0)=false:=by have q4:((agAt xs x).2.2.1 !=0)=true:=q3;simpa[bne]using q4
   refine aI ⟨by decide,by show(0:Int)<((agAt xs y).2.2.2.1.length:Nat);omega⟩ ?_;refine Or.inr (eI _ (eI _ (aI (qb xs us 12 (agAt xs y).2.1 (fP (agAt xs y).2.2.2.1 0) 1 (by omega) (by omega)) ?_)));have hA1:=hA.add h0 12 (agAt xs y).2.1 (fP (agAt xs y).2.2.2.1 0) [] 1;refine Or.inl (eI _ (aI (portS y 1) ?_));refine Or.inl (eI _ (aI (portS _ 0) ?_));refine Or.inr (eI _ (eI _ (aI (moveA _ us (y,1) ((xs.length:Nat),0) hA1 hy1.app (PortIn.new (by decide) (by decide))) ?_)));refine fin [(10002,45)] (aI rfl ?_);refine⟨trivial,⟨rfl,trivial⟩,⟨?_,pR _⟩,trivial⟩;show _=bE xs x y
   unfold bE;rw[show((agAt xs y).1==11)=true from q1,q4];rfl
  ·have q4:((agAt xs x).2.2.1==0)=true:=by have q4:((agAt xs x).2.2.1 !=0)=false:=q3;simpa[bne]using q4
   refine Or.inr (eI _ (eI _ (aI (qb xs us 12 (agAt xs y).2.1 (fP (agAt xs y).2.2.2.1 1) 1 (by omega) (by omega)) ?_)));have hA1:=hA.add h0 12 (agAt xs y).2.1 (fP (agAt xs y).2.2.2.1 1) [] 1;refine Or.inl (eI _ (aI (portS y 1) ?_));refine Or.inl (eI _ (aI (portS _ 0) ?_));refine Or.inr (eI _ (eI _ (aI (moveA _ us (y,1) ((xs.length:Nat),0) hA1 hy1.app (PortIn.new (by decide) (by decide))) ?_)));refine fin [(10002,45)] (aI rfl ?_);refine⟨trivial,⟨rfl,trivial⟩,⟨?_,pR _⟩,trivial⟩;show _=bE xs x y;unfold bE;rw[show((agAt xs y).1==11)=true from q1,q4];rfl
 ·have q2:(agAt xs y).1≠11:=by have q2:((agAt xs y).1==11)=false:=q1;simpa using q2
  obtain⟨v0,v1,k9⟩:=hc q2
  have hf:jW (agAt xs x)=((((agAt xs x).2.2.2.2.length-1):Nat):Int):=by
   unfold jW;rw[show((agAt xs x).1==9)=true by simpa using k9,cond_true,IntWalk.i64_in _ (by omega)];omega
  have hfe:=I8 xs us x;rw[hf]at hfe;refine aI hx ?_;refine Or.inr (eI _ (eI _ (aI hfe ?_)));refine aI hx ?_;refine aI ⟨v0,v1⟩ ?_;refine Or.inr (eI _ (eI _ (aI (qb xs us 12 (agAt xs y).2.1 (fP (agAt xs y).2.2.2.1 (agAt xs x).2.2.1) 1 (by omega) (by omega)) ?_)));refine aI (by kernel_rfl) ?_;refine Or.inl (eI _ (aI (portS _ 0) ?_));have h1A:AllIn (aL xs y (agAt xs x).2.2.1):=hA.add h0 _ _ _ _ _;have h1l:(aL xs y (agAt xs x).2.2.1).length=xs.length+1:=mH _ _ _;have h1R:PortIn (aL xs y (agAt xs x).2.2.1) (fF (aL xs y (agAt xs x).2.2.1).length 0):=by rw[h1l];exact PortIn.new (by decide) (by decide)
  have h1:∀{p},PortIn xs p→PortIn (aL xs y (agAt xs x).2.2.1) p:=fun h=>h.app
  have hxi:∀i:Nat,i<((agAt xs x).2.2.2.2.length-1)→PortIn (aL xs y (agAt xs x).2.2.1) (x,((i+1:Nat):Int)):=fun i hi=>h1 ⟨hx.1,hx.2,by omega,by show((i+1:Nat):Int)<((agAt xs x).2.2.2.2.length:Nat);omega⟩
  refine lp Nat (fun k=>[(12,.int .i64 ((k+1:Nat):Int))])
   (fun k=>[.cel 6 131 [.int .i64 (agAt xs y).1,.int .i64 (agAt xs y).2.1,.int .i64 (agAt xs y).2.2.1,.sl 20,.sl 1000020],.cel 11 102 [.int .i64 (fF (xs.length+1) k).1,.int .i64 (fF (xs.length+1) k).2],.cel 10000 30 [.sl 20000],.row 20000 131 5 uAgent (lF (agAt xs y).2.1 x (xs.length+1) (aL xs y (agAt xs x).2.2.1) k) us]) (fun k=>((agAt xs x).2.2.2.2.length-1)-k) (fun k=>k≤((agAt xs x).2.2.2.2.length-1)) 0 (Nat.zero_le _) ?_ ?_
  ·exact hd [(20000,74)] rfl (aI (aI rfl rfl) trivial) ⟨trivial,⟨⟨rfl,rfl⟩,⟨rfl,rfl⟩,⟨rfl,rfl⟩,rfl,rfl,trivial⟩,trivial,⟨⟨rfl,rfl⟩,⟨rfl,rfl⟩,trivial⟩,trivial,⟨rfl,trivial⟩,⟨rfl,pR _⟩,trivial⟩
  intro k hk;have hcl:(lF (agAt xs y).2.1 x (xs.length+1) (aL xs y (agAt xs x).2.2.1) k).length=xs.length+1+k:=by rw[lW,h1l]
  refine aI (fun q3=> ?_) (fun q3=> ?_)
  ·have hlt:k<((agAt xs x).2.2.2.2.length-1):=by
    have q4:decide (((k+1:Nat):Int)≤((((agAt xs x).2.2.2.2.length-1):Nat):Int))=true:=q3;simp only[decide_eq_true_eq]at q4;omega
   have hadd:=qb (lF (agAt xs y).2.1 x (xs.length+1) (aL xs y (agAt xs x).2.2.1) k) us 3 (agAt xs y).2.1 0 3 (by rw[hcl];omega) (by omega);rw[hcl]at hadd;refine Or.inr (eI _ (eI _ (aI hadd ?_)))
   have hnew:∀s:Int,0≤s→s<3→PortIn ((lF (agAt xs y).2.1 x (xs.length+1) (aL xs y (agAt xs x).2.2.1) k)++[aJ 3 (agAt xs y).2.1 0 [] 3]) (((xs.length+1+k:Nat):Int),s):=fun s h0 h1=>by
    have:=ql (lv:=(agAt xs y).2.1) (x:=x) (xs:=(aL xs y (agAt xs x).2.2.1)) k h0 h1;rw[h1l]at this;exact this
   have hR:=rz (lv:=(agAt xs y).2.1) (x:=x) h1R k;rw[h1l]at hR;have hAk:=qm (lv:=(agAt xs y).2.1) (x:=x) h1A (h1 h0) h1R k fun i hi=>hxi i (by omega)
   rw[h1l]at hAk;refine Or.inl (eI _ (aI (portS _ 0) ?_));refine Or.inr (eI _ (eI _ (aI (BJ ((lF (agAt xs y).2.1 x (xs.length+1) (aL xs y (agAt xs x).2.2.1) k)++[aJ 3 (agAt xs y).2.1 0 [] 3]) us (fF (xs.length+1) k) (((xs.length+1+k:Nat):Int),0) hR.app (hnew 0 (by decide) (by decide))) ?_)));refine aI (by kernel_rfl) ?_;refine Or.inl (eI _ (aI (portS x _) ?_));refine Or.inl (eI _ (aI (portS _ 1) ?_));refine Or.inr (eI _ (eI _ (aI (moveA (aR ((lF (agAt xs y).2.1 x (xs.length+1) (aL xs y (agAt xs x).2.2.1) k)++[aJ 3 (agAt xs y).2.1 0 [] 3]) (fF (xs.length+1) k) (((xs.length+1+k:Nat):Int),0)) us (x,((k+1:Nat):Int)) (((xs.length+1+k:Nat):Int),1) ((hAk.add (jR (h1 h0) k) _ _ _ _ _).link hR.app (hnew 0 (by decide) (by decide))) (jR (hxi k hlt) k).app.link (hnew 1 (by decide) (by decide)).link) ?_)))
   refine Or.inl (eI _ (aI (portS _ 2) ?_));refine lp_next (k+1) (by omega) ?_ ?_
   ·exact hd [(20000,85)] rfl (aI (aI (wrapS (by omega)) rfl) trivial) ⟨trivial,⟨⟨rfl,rfl⟩,⟨rfl,rfl⟩,⟨rfl,rfl⟩,rfl,rfl,trivial⟩,trivial,⟨⟨rfl,rfl⟩,⟨rfl,rfl⟩,trivial⟩,trivial,⟨rfl,trivial⟩,⟨rfl,pR _⟩,trivial⟩
   ·show((agAt xs x).2.2.2.2.length-1)-(k+1)<((agAt xs x).2.2.2.2.length-1)-k;omega
  ·have hke:k=((agAt xs x).2.2.2.2.length-1):=by
    have q4:decide (((k+1:Nat):Int)≤((((agAt xs x).2.2.2.2.length-1):Nat):Int))=false:=q3;simp only[decide_eq_false_iff_not]at q4;omega
   have hR:=rz (lv:=(agAt xs y).2.1) (x:=x) h1R k;rw[h1l]at hR;have hAk:=qm (lv:=(agAt xs y).2.1) (x:=x) h1A (h1 h0) h1R k fun i hi=>hxi i (by omega)
   rw[h1l]at hAk;refine Or.inl (eI _ (aI (portS y 1) ?_));refine Or.inr (eI _ (eI _ (aI (moveA (lF (agAt xs y).2.1 x (xs.length+1) (aL xs y (agAt xs x).2.2.1) k) us (y,1) (fF (xs.length+1) k) hAk (jR (h1 hy1) k) hR) ?_)));refine aI (by kernel_rfl) ?_;refine fin [(10002,20000)] (aI rfl ?_);refine⟨trivial,⟨rfl,trivial⟩,⟨?_,pR _⟩,trivial⟩;show bG (lF (agAt xs y).2.1 x (xs.length+1) (aL xs y (agAt xs x).2.2.1) k) (y,1) (fF (xs.length+1) k)=bE xs x y;unfold bE;rw[show((agAt xs y).1==11)=false from q1,hke];rfl
theorem Oq(xs:List NAgent)(us:List Value)(pk:Int)(tr:List Int)(x y:Int)(hA:AllIn xs)(h0:PortIn xs (0,0))(hl:xs.length≤900000)(hx:0≤x∧x<(xs.length:Nat))(hy1:PortIn xs (y,1))(h6:(agAt xs y).1=11→(agAt xs y).2.2.2.1.length=2)(hc:(agAt xs y).1≠11→0≤(agAt xs x).2.2.1∧(agAt xs x).2.2.1<((agAt xs y).2.2.2.1.length:Nat)∧(agAt xs x).1=9)(hp:(agAt xs x).2.2.2.2.length≤1000)(hp0:0<(agAt xs x).2.2.2.2.length)(hdd:(agAt xs y).2.2.2.1.length≤1000000)(hpy:(agAt xs y).2.2.2.2.length≤1000):
  FCall Tryz.prog 143 [.ptr 10000 0,.int .i64 x,.int .i64 y] (tB xs us pk tr) (.tup []) (tBn 10003 (bE xs x y) us pk tr):=by
 have hy:0≤y∧y<(xs.length:Nat):=⟨hy1.1,hy1.2.1⟩;refine FCall.intro (nt:=105) ti_ok mixed BQ Tryz.func143 rfl rfl rfl rfl rfl rfl ?_;refine aI hy ?_;refine Or.inr (eI _ (eI _ (aI (uG xs us y (by omega) (by omega)) ?_)));refine aI (fun q1=> ?_) (fun q1=> ?_)
 ·have q2:(agAt xs y).1=11:=by have q2:((agAt xs y).1==11)=true:=q1;simpa using q2
  have hl2:=h6 q2;refine aI ⟨by decide,by show(1:Int)<((agAt xs y).2.2.2.1.length:Nat);omega⟩ ?_;refine aI hx ?_;refine aI (fun q3=> ?_) (fun q3=> ?_)
  ·have q4:((agAt xs x).2.2.1==0)=false:=by have q4:((agAt xs x).2.2.1 !=0)=true:=q3;simpa[bne]using q4
   refine aI ⟨by decide,by show(0:Int)<((agAt xs y).2.2.2.1.length:Nat);omega⟩ ?_;refine Or.inr (eI _ (eI _ (aI (qg xs us pk tr 12 (agAt xs y).2.1 (fP (agAt xs y).2.2.2.1 0) 1 (by omega) (by omega)) ?_)));have hA1:=hA.add h0 12 (agAt xs y).2.1 (fP (agAt xs y).2.2.2.1 0) [] 1;refine Or.inl (eI _ (aI (portS y 1) ?_));refine Or.inl (eI _ (aI (portS _ 0) ?_));refine Or.inr (eI _ (eI _ (aI (moveB _ us pk tr (y,1) ((xs.length:Nat),0) hA1 hy1.app (PortIn.new (by decide) (by decide))) ?_)));refine fin [(10003,45)] (aI rfl ?_);refine⟨trivial,⟨rfl,rfl,⟨rfl,rfl⟩,trivial⟩,⟨?_,pR _⟩,⟨rfl,nP⟩,trivial⟩
   show _=bE xs x y;unfold bE;rw[show((agAt xs y).1==11)=true from q1,q4];rfl
  ·have q4:((agAt xs x).2.2.1==0)=true:=by have q4:((agAt xs x).2.2.1 !=0)=false:=q3;simpa[bne]using q4
   refine Or.inr (eI _ (eI _ (aI (qg xs us pk tr 12 (agAt xs y).2.1 (fP (agAt xs y).2.2.2.1 1) 1 (by omega) (by omega)) ?_)));have hA1:=hA.add h0 12 (agAt xs y).2.1 (fP (agAt xs y).2.2.2.1 1) [] 1;refine Or.inl (eI _ (aI (portS y 1) ?_));refine Or.inl (eI _ (aI (portS _ 0) ?_));refine Or.inr (eI _ (eI _ (aI (moveB _ us pk tr (y,1) ((xs.length:Nat),0) hA1 hy1.app (PortIn.new (by decide) (by decide))) ?_)));refine fin [(10003,45)] (aI rfl ?_);refine⟨trivial,⟨rfl,rfl,⟨rfl,rfl⟩,trivial⟩,⟨?_,pR _⟩,⟨rfl,nP⟩,trivial⟩;show _=bE xs x y;unfold bE;rw[show((agAt xs y).1==11)=true from q1,q4];rfl
 ·have q2:(agAt xs y).1≠11:=by have q2:((agAt xs y).1==11)=false:=q1;simpa using q2
  obtain⟨v0,v1,k9⟩:=hc q2
  have hf:jW (agAt xs x)=((((agAt xs x).2.2.2.2.length-1):Nat):Int):=by
   unfold jW;rw[show((agAt xs x).1==9)=true by simpa using k9,cond_true,IntWalk.i64_in _ (by omega)];omega
  have hfe:=I8 xs us x;rw[hf]at hfe;refine aI hx ?_;refine Or.inr (eI _ (eI _ (aI hfe ?_)));refine aI hx ?_;refine aI ⟨v0,v1⟩ ?_;refine Or.inr (eI _ (eI _ (aI (qg xs us pk tr 12 (agAt xs y).2.1 (fP (agAt xs y).2.2.2.1 (agAt xs x).2.2.1) 1 (by omega) (by omega)) ?_)));refine aI (by kernel_rfl) ?_;refine Or.inl (eI _ (aI (portS _ 0) ?_));have h1A:AllIn (aL xs y (agAt xs x).2.2.1):=hA.add h0 _ _ _ _ _;have h1l:(aL xs y (agAt xs x).2.2.1).length=xs.length+1:=mH _ _ _;have h1R:PortIn (aL xs y (agAt xs x).2.2.1) (fF (aL xs y (agAt xs x).2.2.1).length 0):=by rw[h1l];exact PortIn.new (by decide) (by decide)
  have h1:∀{p},PortIn xs p→PortIn (aL xs y (agAt xs x).2.2.1) p:=fun h=>h.app
  have hxi:∀i:Nat,i<((agAt xs x).2.2.2.2.length-1)→PortIn (aL xs y (agAt xs x).2.2.1) (x,((i+1:Nat):Int)):=fun i hi=>h1 ⟨hx.1,hx.2,by omega,by show((i+1:Nat):Int)<((agAt xs x).2.2.2.2.length:Nat);omega⟩
  refine lp Nat (fun k=>[(12,.int .i64 ((k+1:Nat):Int))])
   (fun k=>[.cel 6 131 [.int .i64 (agAt xs y).1,.int .i64 (agAt xs y).2.1,.int .i64 (agAt xs y).2.2.1,.sl 20,.sl 1000020],.cel 11 102 [.int .i64 (fF (xs.length+1) k).1,.int .i64 (fF (xs.length+1) k).2],.cel 10000 66 [.sl 20000,.sl 10002,.int .i64 pk],.row 20000 131 5 uAgent (lF (agAt xs y).2.1 x (xs.length+1) (aL xs y (agAt xs x).2.2.1) k) us,.row 10002 2 1 (.int .i64) tr []]) (fun k=>((agAt xs x).2.2.2.2.length-1)-k) (fun k=>k≤((agAt xs x).2.2.2.2.length-1)) 0 (Nat.zero_le _) ?_ ?_
  ·exact hd [(20000,74)] rfl (aI (aI rfl rfl) trivial) ⟨trivial,⟨⟨rfl,rfl⟩,⟨rfl,rfl⟩,⟨rfl,rfl⟩,rfl,rfl,trivial⟩,trivial,⟨⟨rfl,rfl⟩,⟨rfl,rfl⟩,trivial⟩,trivial,⟨rfl,rfl,⟨rfl,rfl⟩,trivial⟩,⟨rfl,pR _⟩,⟨rfl,nP⟩,trivial⟩
  intro k hk;have hcl:(lF (agAt xs y).2.1 x (xs.length+1) (aL xs y (agAt xs x).2.2.1) k).length=xs.length+1+k:=by rw[lW,h1l]
  refine aI (fun q3=> ?_) (fun q3=> ?_)
  ·have hlt:k<((agAt xs x).2.2.2.2.length-1):=by
    have q4:decide (((k+1:Nat):Int)≤((((agAt xs x).2.2.2.2.length-1):Nat):Int))=true:=q3;simp only[decide_eq_true_eq]at q4;omega
   have hadd:=qg (lF (agAt xs y).2.1 x (xs.length+1) (aL xs y (agAt xs x).2.2.1) k) us pk tr 3 (agAt xs y).2.1 0 3 (by rw[hcl];omega) (by omega);rw[hcl]at hadd;refine Or.inr (eI _ (eI _ (aI hadd ?_)))
   have hnew:∀s:Int,0≤s→s<3→PortIn ((lF (agAt xs y).2.1 x (xs.length+1) (aL xs y (agAt xs x).2.2.1) k)++[aJ 3 (agAt xs y).2.1 0 [] 3]) (((xs.length+1+k:Nat):Int),s):=fun s h0 h1=>by
    have:=ql (lv:=(agAt xs y).2.1) (x:=x) (xs:=(aL xs y (agAt xs x).2.2.1)) k h0 h1;rw[h1l]at this;exact this
   have hR:=rz (lv:=(agAt xs y).2.1) (x:=x) h1R k;rw[h1l]at hR;have hAk:=qm (lv:=(agAt xs y).2.1) (x:=x) h1A (h1 h0) h1R k fun i hi=>hxi i (by omega)
   rw[h1l]at hAk;refine Or.inl (eI _ (aI (portS _ 0) ?_));refine Or.inr (eI _ (eI _ (aI (BK ((lF (agAt xs y).2.1 x (xs.length+1) (aL xs y (agAt xs x).2.2.1) k)++[aJ 3 (agAt xs y).2.1 0 [] 3]) us pk tr (fF (xs.length+1) k) (((xs.length+1+k:Nat):Int),0) hR.app (hnew 0 (by decide) (by decide))) ?_)));refine aI (by kernel_rfl) ?_;refine Or.inl (eI _ (aI (portS x _) ?_));refine Or.inl (eI _ (aI (portS _ 1) ?_));refine Or.inr (eI _ (eI _ (aI (moveB (aR ((lF (agAt xs y).2.1 x (xs.length+1) (aL xs y (agAt xs x).2.2.1) k)++[aJ 3 (agAt xs y).2.1 0 [] 3]) (fF (xs.length+1) k) (((xs.length+1+k:Nat):Int),0)) us pk tr (x,((k+1:Nat):Int)) (((xs.length+1+k:Nat):Int),1) ((hAk.add (jR (h1 h0) k) _ _ _ _ _).link hR.app (hnew 0 (by decide) (by decide))) (jR (hxi k hlt) k).app.link (hnew 1 (by decide) (by decide)).link) ?_)))
   refine Or.inl (eI _ (aI (portS _ 2) ?_));refine lp_next (k+1) (by omega) ?_ ?_
   ·exact hd [(20000,85)] rfl (aI (aI (wrapS (by omega)) rfl) trivial) ⟨trivial,⟨⟨rfl,rfl⟩,⟨rfl,rfl⟩,⟨rfl,rfl⟩,rfl,rfl,trivial⟩,trivial,⟨⟨rfl,rfl⟩,⟨rfl,rfl⟩,trivial⟩,trivial,⟨rfl,rfl,⟨rfl,rfl⟩,trivial⟩,⟨rfl,pR _⟩,⟨rfl,nP⟩,trivial⟩
   ·show((agAt xs x).2.2.2.2.length-1)-(k+1)<((agAt xs x).2.2.2.2.length-1)-k;omega
  ·have hke:k=((agAt xs x).2.2.2.2.length-1):=by
    have q4:decide (((k+1:Nat):Int)≤((((agAt xs x).2.2.2.2.length-1):Nat):Int))=false:=q3;simp only[decide_eq_false_iff_not]at q4;omega
   have hR:=rz (lv:=(agAt xs y).2.1) (x:=x) h1R k;rw[h1l]at hR;have hAk:=qm (lv:=(agAt xs y).2.1) (x:=x) h1A (h1 h0) h1R k fun i hi=>hxi i (by omega)
   rw[h1l]at hAk;refine Or.inl (eI _ (aI (portS y 1) ?_));refine Or.inr (eI _ (eI _ (aI (moveB (lF (agAt xs y).2.1 x (xs.length+1) (aL xs y (agAt xs x).2.2.1) k) us pk tr (y,1) (fF (xs.length+1) k) hAk (jR (h1 hy1) k) hR) ?_)));refine aI (by kernel_rfl) ?_;refine fin [(10003,20000)] (aI rfl ?_);refine⟨trivial,⟨rfl,rfl,⟨rfl,rfl⟩,trivial⟩,⟨?_,pR _⟩,⟨rfl,nP⟩,trivial⟩;show bG (lF (agAt xs y).2.1 x (xs.length+1) (aL xs y (agAt xs x).2.2.1) k) (y,1) (fF (xs.length+1) k)=bE xs x y;unfold bE;rw[show((agAt xs y).1==11)=false from q1,hke];rfl
theorem FE:callOk Tryz.prog 89=true:=by kernel_rfl
theorem Lm(x y:NAgent):QCall Tryz.prog 89 [.rp uAgent x,.rp uAgent y] (.int .i64 (aQ x y)):=by
 refine QCall.intro (nt:=70) ti_ok mixed FE Tryz.func89 rfl rfl rfl rfl rfl ?_;refine aI (by kernel_rfl) ?_;refine aI (fun q1=> ?_) (fun q1=> ?_)
 ·refine⟨?_,rfl⟩;unfold aQ;rw[show eD x y=true from q1];rfl
 refine aI (by kernel_rfl) ?_;refine aI (fun q2=> ?_) (fun q2=> ?_)
 ·refine⟨?_,rfl⟩;unfold aQ;rw[show eD x y=false from q1,show jS x y=true from q2];rfl
 refine Or.inl (eI _ (aI (Hf _ _ _ _) ?_));refine aI (by kernel_rfl) ?_;refine⟨?_,rfl⟩;unfold aQ;rw[show eD x y=false from q1,show jS x y=false from q2];rfl
theorem lq(xs:List NAgent)(us:List Value)(i j:Int):FCall Tryz.prog 89 [.ep 10000 5 i 0,.ep 10000 5 j 0] [.row 10000 131 5 uAgent xs us] (.int .i64 (aQ (agAt xs i) (agAt xs j))) [.row 10000 131 5 uAgent xs us]:=
 FCall.of_q ti_ok [0,0] FE (Lm (agAt xs i) (agAt xs j)) rfl
theorem iO:callOk Tryz.prog 118=true:=by kernel_rfl
theorem nD(xs:List NAgent)(a b:Int)(ha:0≤a∧a<(xs.length:Nat))(hb:0≤b∧b<(xs.length:Nat)):QCall Tryz.prog 118 [.rp uNet xs,.int .i64 a,.int .i64 b] (.tup [.int .i64 (aj xs a b).1,.int .i64 (aj xs a b).2]):=by
 refine QCall.intro (nt:=44) ti_ok mixed iO Tryz.func118 rfl rfl rfl rfl rfl ?_;refine aI ha ?_;refine aI hb ?_;refine Or.inl (eI _ (aI (LQ _ _ _ _) ?_));refine aI (by kernel_rfl) ?_;refine aI (fun q1=> ?_) (fun q1=> ?_)
 ·have e:aj xs a b=(b,a):=by unfold aj;rw[show(aG (agAt xs a).1 (agAt xs a).2.1 (agAt xs b).1 (agAt xs b).2.1==2)=true from q1];rfl
  rw[e];exact rfl
 ·have e:aj xs a b=(a,b):=by unfold aj;rw[show(aG (agAt xs a).1 (agAt xs a).2.1 (agAt xs b).1 (agAt xs b).2.1==2)=false from q1];rfl
  rw[e];exact rfl
theorem maxS(a b:Int):QCall Tryz.prog 91 [.int .i64 a,.int .i64 b] (.int .i64 (maxI a b)):=by
 refine QCall.intro (nt:=10) ti_ok mixed (by kernel_rfl) Tryz.func91 rfl rfl rfl rfl rfl ?_;refine aI (fun q1=> ?_) (fun q1=> ?_)
 ·refine⟨?_,rfl⟩;unfold maxI;rw[show decide (b<a)=true from q1];rfl
 ·refine⟨?_,rfl⟩;unfold maxI;rw[show decide (b<a)=false from q1];rfl
theorem SL(t:List NAgent)(hl:t.length≤2000000):QCall Tryz.prog 176 [.rp uNet t] (.int .i64 (jv t t.length)):=by
 refine QCall.intro (nt:=25) ti_ok mixed (by kernel_rfl) Tryz.func176 rfl rfl rfl rfl rfl ?_;refine lp Nat (fun k=>[(4,.int .i64 (k:Nat)),(3,.int .i64 (jv t k))]) (fun _=>[]) (fun k=>t.length-k) (fun k=>k≤t.length) 0 (Nat.zero_le _) ?_ ?_
 ·exact hd [] rfl (aI (aI rfl rfl) (aI (aI rfl rfl) trivial)) trivial
 intro k hk;refine aI (fun q1=> ?_) (fun q1=> ?_)
 ·have hlt:k<t.length:=by simpa using q1
  refine aI (show 0≤((k:Nat):Int)∧((k:Nat):Int)<(t.length:Nat) by omega) ?_;refine Or.inl (eI _ (aI (maxS _ _) ?_));refine lp_next (k+1) hlt ?_ ?_
  ·exact hd [] rfl (aI (aI (wrapS (by omega)) rfl) (aI (aI rfl rfl) trivial)) trivial
  ·show t.length-(k+1)<t.length-k;omega
 ·have hge:t.length≤k:=by simpa using q1
  have hke:k=t.length:=by omega
  subst hke;exact⟨rfl,rfl⟩
theorem gZ:callOk Tryz.prog 92=true:=by kernel_rfl
theorem kU(t:List NAgent)(hl:t.length≤1000000):QCall Tryz.prog 92 [.rp uNet t] (.int .i64 (aT t t.length:Nat)):=by
 refine QCall.intro (nt:=26) ti_ok mixed gZ Tryz.func92 rfl rfl rfl rfl rfl ?_;refine lp Nat (fun k=>[(4,.int .i64 (k:Nat)),(3,.int .i64 (aT t k:Nat))]) (fun _=>[]) (fun k=>t.length-k) (fun k=>k≤t.length) 0 (Nat.zero_le _) ?_ ?_
 ·exact hd [] rfl (aI (aI rfl rfl) (aI (aI rfl rfl) trivial)) trivial
 intro k hk;refine aI (fun q1=> ?_) (fun q1=> ?_)
 ·have hlt:k<t.length:=by simpa using q1
  have hle:=pG t k;refine aI (show 0≤((k:Nat):Int)∧((k:Nat):Int)<(t.length:Nat) by omega) ?_;refine aI (fun q2=> ?_) (fun q2=> ?_)
  ·refine lp_next (k+1) hlt ?_ ?_
   ·refine hd [] rfl (aI (aI (wrapS (by omega)) rfl) (aI (aI ?_ rfl) trivial)) trivial;show IntKind.i64.wrap ((aT t k:Nat)+1)=((aT t (k+1):Nat):Int);rw[wrapS (by omega)];rw[show aT t (k+1)=(bif (agAt t (k:Nat)).1 !=0 then aT t k+1 else aT t k) from rfl,show((agAt t (k:Nat)).1 !=0)=true from q2];rfl
   ·show t.length-(k+1)<t.length-k;omega
  ·refine lp_next (k+1) hlt ?_ ?_
   ·refine hd [] rfl (aI (aI (wrapS (by omega)) rfl) (aI (aI ?_ rfl) trivial)) trivial;show((aT t k:Nat):Int)=((aT t (k+1):Nat):Int);rw[show aT t (k+1)=(bif (agAt t (k:Nat)).1 !=0 then aT t k+1 else aT t k) from rfl,show((agAt t (k:Nat)).1 !=0)=false from q2];rfl
   ·show t.length-(k+1)<t.length-k;omega
 ·have hge:t.length≤k:=by simpa using q1
  have hke:k=t.length:=by omega
  subst hke;exact⟨rfl,rfl⟩
theorem o7{p lo hi d:Int}(h:inB p lo hi=true):iA p lo hi d=(IntKind.i64.wrap (p+d),0):=by
 obtain⟨h1,h2⟩:=inB_t h;unfold iA;rw[show decide (p<lo)=false by simpa using h1,show decide (hi<p)=false by simpa using h2];rfl
theorem Ma{p lo hi d:Int}(h:inB p lo hi=false):iA p lo hi d=(0,2):=by
 rcases Mh h with h1|h1
 ·unfold iA;rw[show decide (p<lo)=true by simpa using h1];rfl
 ·unfold iA;rw[show decide (hi<p)=true by simpa using h1];cases decide (p<lo)<;>rfl
theorem vJ(c p:Int):QCall Tryz.prog 177 [.int .i64 c,.int .i64 p] (.tup [.int .i64 (bI c p).1,.int .i64 (bI c p).2]):=by
 have leafT:∀{lo hi d v:Int},bI c p=iA p lo hi d→(inB p lo hi=true→v=IntKind.i64.wrap (p+d))→∀q:(!(inB p lo hi))=false,(SV.tup [.int .i64 v,.int .i64 0]:SV)=.tup [.int .i64 (bI c p).1,.int .i64 (bI c p).2]:=fun {lo hi d v} e hv q=>by
  have h:inB p lo hi=true:=by simpa using q
  rw[e,o7 h,hv h]
 have leafF:∀{lo hi d:Int},bI c p=iA p lo hi d→∀q:(!(inB p lo hi))=true,(SV.tup [.int .i64 0,.int .i64 2]:SV)=.tup [.int .i64 (bI c p).1,.int .i64 (bI c p).2]:=fun {lo hi d} e q=>by
  have h:inB p lo hi=false:=by simpa using q
  rw[e,Ma h]
 refine QCall.intro (nt:=36) ti_ok mixed (by kernel_rfl) Tryz.func177 rfl rfl rfl rfl rfl ?_;refine aI (fun q1=> ?_) (fun q1=> ?_)
 ·refine aI (fun _=> ?_) (fun h=>by rw[show(c==1)=true from q1]at h;cases h);refine Or.inl (eI _ (aI (Dn _ _ _) ?_));refine aI (fun q=> ?_) (fun q=> ?_)
  ·exact leafF (lo:=0) (hi:=0) (d:= -2) (by simp only[bI,q1,cond_true,cond_false]) q
  ·exact leafT (lo:=0) (hi:=0) (d:= -2) (by simp only[bI,q1,cond_true,cond_false]) (fun h=>by obtain⟨h1,h2⟩:=inB_t h;have e0:p=0:=(by omega);subst e0;rfl) q
 refine aI (fun q2=> ?_) (fun q2=> ?_)
 ·refine Or.inl (eI _ (aI (Dn _ _ _) ?_));refine aI (fun q=> ?_) (fun q=> ?_)
  ·exact leafF (lo:=0) (hi:=0) (d:= -2) (by simp only[bI,q1,q2,cond_true,cond_false]) q
  ·exact leafT (lo:=0) (hi:=0) (d:= -2) (by simp only[bI,q1,q2,cond_true,cond_false]) (fun h=>by obtain⟨h1,h2⟩:=inB_t h;have e0:p=0:=(by omega);subst e0;rfl) q
 refine aI (fun q3=> ?_) (fun q3=> ?_)
 ·refine Or.inl (eI _ (aI (Dn _ _ _) ?_));refine aI (fun q=> ?_) (fun q=> ?_)
  ·exact leafF (lo:=0) (hi:=3) (d:=0) (by simp only[bI,q1,q2,q3,cond_true,cond_false]) q
  ·exact leafT (lo:=0) (hi:=3) (d:=0) (by simp only[bI,q1,q2,q3,cond_true,cond_false]) (fun h=>by obtain⟨h1,h2⟩:=inB_t h;rw[IntWalk.i64_in _ (by omega)];omega) q
 refine aI (fun q4=> ?_) (fun q4=> ?_)
 ·refine Or.inl (eI _ (aI (Dn _ _ _) ?_));refine aI (fun q=> ?_) (fun q=> ?_)
  ·exact leafF (lo:=0) (hi:=3) (d:= -2) (by simp only[bI,q1,q2,q3,q4,cond_true,cond_false]) q
  ·exact leafT (lo:=0) (hi:=3) (d:= -2) (by simp only[bI,q1,q2,q3,q4,cond_true,cond_false]) (fun _=>rfl) q
 refine aI (fun q5=> ?_) (fun q5=> ?_)
 ·refine Or.inl (eI _ (aI (Dn _ _ _) ?_));refine aI (fun q=> ?_) (fun q=> ?_)
  ·exact leafF (lo:=0) (hi:=0) (d:= -1) (by simp only[bI,q1,q2,q3,q4,q5,cond_true,cond_false]) q
  ·exact leafT (lo:=0) (hi:=0) (d:= -1) (by simp only[bI,q1,q2,q3,q4,q5,cond_true,cond_false]) (fun h=>by obtain⟨h1,h2⟩:=inB_t h;have e0:p=0:=(by omega);subst e0;rfl) q
 refine aI (fun q6=> ?_) (fun q6=> ?_)
 ·refine Or.inl (eI _ (aI (Dn _ _ _) ?_));refine aI (fun q=> ?_) (fun q=> ?_)
  ·exact leafF (lo:=0) (hi:=3) (d:= -1) (by simp only[bI,q1,q2,q3,q4,q5,q6,cond_true,cond_false]) q
  ·exact leafT (lo:=0) (hi:=3) (d:= -1) (by simp only[bI,q1,q2,q3,q4,q5,q6,cond_true,cond_false]) (fun _=>rfl) q
 refine aI (fun q7=> ?_) (fun q7=> ?_)
 ·refine Or.inl (eI _ (aI (Dn _ _ _) ?_));refine aI (fun q=> ?_) (fun q=> ?_)
  ·exact leafF (lo:=2) (hi:=600) (d:= -2) (by simp only[bI,q1,q2,q3,q4,q5,q6,q7,cond_true,cond_false]) q
  ·exact leafT (lo:=2) (hi:=600) (d:= -2) (by simp only[bI,q1,q2,q3,q4,q5,q6,q7,cond_true,cond_false]) (fun _=>rfl) q
 ·have e:bI c p=(0,2):=by simp only[bI,q1,q2,q3,q4,q5,q6,q7,cond_true,cond_false]
  rw[e];exact rfl
theorem Um(xs:List NAgent)(us:List Value)(x y:Int)(hA:AllIn xs)(h0:PortIn xs (0,0))(hl:xs.length≤900000)(hx1:PortIn xs (x,1))(hx2:PortIn xs (x,2))(hy:0≤y∧y<(xs.length:Nat))(hp:(agAt xs y).2.2.2.2.length≤1000)(hdt:(agAt xs y).2.2.2.1.length≤1000000)(hp0:0<(agAt xs y).2.2.2.2.length):
  FCall Tryz.prog 139 [.ptr 10000 0,.int .i64 x,.int .i64 y] (tA xs us) (.tup []) (N8 10002 (aO xs x y) us):=by
 have hx:0≤x∧x<(xs.length:Nat):=⟨hx1.1,hx1.2.1⟩;refine FCall.intro (nt:=102) ti_ok mixed ML Tryz.func139 rfl rfl rfl rfl rfl rfl ?_;refine aI hx ?_;refine aI hy ?_;refine Or.inr (eI _ (eI _ (aI (uG xs us y (by omega) (by omega)) ?_)));refine Or.inr (eI _ (eI _ (aI (CF xs us (agAt xs y).1 (agAt xs y).2.1 (agAt xs y).2.2.1 (agAt xs y).2.2.2.2.length (agAt xs y).2.2.2.1 (by omega) (by omega) (by omega)) ?_)));have hadd2:=CF (xs++[jN xs y]) us (agAt xs y).1 (agAt xs y).2.1 (agAt xs y).2.2.1 (agAt xs y).2.2.2.2.length (agAt xs y).2.2.2.1 (by rw[List.length_append,List.length_singleton];omega) (by omega) (by omega)
 rw[show(xs++[jN xs y]).length=xs.length+1 by simp]at hadd2;refine Or.inr (eI _ (eI _ (aI hadd2 ?_)));have h2A:=rC (y:=y) hA h0
 have hFS:∀k,(aF (agAt xs x).2.1 ((xs.length:Nat):Int) ((xs.length+1:Nat):Int) (dup2 xs y) k)=bH x ((xs.length:Nat):Int) ((xs.length+1:Nat):Int) (dup2 xs y) k:=fun k=>by
  have h:=(iI (x:=x) (c:=((xs.length:Nat):Int)) (d:=((xs.length+1:Nat):Int)) (xs:=dup2 xs y) (by rw[dM];omega) k).1;have e:(agAt (dup2 xs y) x).2.1=(agAt xs x).2.1:=by unfold dup2;rw[List.append_assoc,bD (by omega)]
  rw[e]at h;exact h
 have hcd:∀i:Nat,i≤((agAt xs y).2.2.2.2.length-1)→PortIn (dup2 xs y) (((xs.length:Nat):Int),(i:Nat))∧PortIn (dup2 xs y) (((xs.length+1:Nat):Int),(i:Nat)):=fun i hi=>⟨ng (by omega) (by omega),ni (by omega) (by omega)⟩
 refine lp Nat (fun k=>[(11,.int .i64 ((k+1:Nat):Int))]) (fun k=>[.cel 10000 30 [.sl 20000],.row 20000 131 5 uAgent (aF (agAt xs x).2.1 ((xs.length:Nat):Int) ((xs.length+1:Nat):Int) (dup2 xs y) k) us]) (fun k=>((agAt xs y).2.2.2.2.length-1)-k) (fun k=>k≤((agAt xs y).2.2.2.2.length-1)) 0 (Nat.zero_le _) ?_ ?_
 ·exact hd [(20000,53)] rfl (aI (aI rfl rfl) trivial) ⟨trivial,⟨rfl,trivial⟩,⟨rfl,pR _⟩,trivial⟩
 intro k hk;have hcl:(aF (agAt xs x).2.1 ((xs.length:Nat):Int) ((xs.length+1:Nat):Int) (dup2 xs y) k).length=xs.length+2+k:=by rw[hFS,fE,dM]
 refine aI (fun q1=> ?_) (fun q1=> ?_)
 ·have q2:((k+1:Nat):Int)<((agAt xs y).2.2.2.2.length:Nat):=by have q2:decide (((k+1:Nat):Int)<((agAt xs y).2.2.2.2.length:Nat))=true:=q1;simpa using q2
  refine Or.inr (eI _ (eI _ (aI (qb (aF (agAt xs x).2.1 ((xs.length:Nat):Int) ((xs.length+1:Nat):Int) (dup2 xs y) k) us 4 (agAt xs x).2.1 0 3 (by rw[hcl];omega) (by omega)) ?_)));have hc:=hcd (k+1) (by omega);have hin:∀{p},PortIn (dup2 xs y) p→PortIn (aF (agAt xs x).2.1 ((xs.length:Nat):Int) ((xs.length+1:Nat):Int) (dup2 xs y) k) p:=fun h=>by rw[hFS];exact aX h k
  refine Or.inl (eI _ (aI (portS _ 1) ?_));refine Or.inl (eI _ (aI (portS _ _) ?_));refine Or.inr (eI _ (eI _ (aI (BJ ((aF (agAt xs x).2.1 ((xs.length:Nat):Int) ((xs.length+1:Nat):Int) (dup2 xs y) k)++[aJ 4 (agAt xs x).2.1 0 [] 3]) us (((aF (agAt xs x).2.1 ((xs.length:Nat):Int) ((xs.length+1:Nat):Int) (dup2 xs y) k).length:Nat),1) (((xs.length:Nat):Int),((k+1:Nat):Int)) (PortIn.new (by decide) (by decide)) (hin hc.1).app) ?_)));refine Or.inl (eI _ (aI (portS _ 2) ?_));refine Or.inl (eI _ (aI (portS _ _) ?_));refine Or.inr (eI _ (eI _ (aI (BJ (aR ((aF (agAt xs x).2.1 ((xs.length:Nat):Int) ((xs.length+1:Nat):Int) (dup2 xs y) k)++[aJ 4 (agAt xs x).2.1 0 [] 3]) (((aF (agAt xs x).2.1 ((xs.length:Nat):Int) ((xs.length+1:Nat):Int) (dup2 xs y) k).length:Nat),1) (((xs.length:Nat):Int),((k+1:Nat):Int))) us (((aF (agAt xs x).2.1 ((xs.length:Nat):Int) ((xs.length+1:Nat):Int) (dup2 xs y) k).length:Nat),2) (((xs.length+1:Nat):Int),((k+1:Nat):Int)) (PortIn.link (PortIn.new (by decide) (by decide))) (hin hc.2).app.link) ?_)))
  refine lp_next (k+1) (by omega) ?_ ?_
  ·exact hd [(20000,61)] rfl (aI (aI (wrapS (by omega)) rfl) trivial) ⟨trivial,⟨rfl,trivial⟩,⟨rfl,pR _⟩,trivial⟩
  ·show((agAt xs y).2.2.2.2.length-1)-(k+1)<((agAt xs y).2.2.2.2.length-1)-k;omega
 ·have q2:((agAt xs y).2.2.2.2.length:Nat)≤((k+1:Nat):Int):=by have q2:decide (((k+1:Nat):Int)<((agAt xs y).2.2.2.2.length:Nat))=false:=q1;simpa using q2
  have hke:k=((agAt xs y).2.2.2.2.length-1):=by omega
  subst hke;have hd3:(aF (agAt xs x).2.1 ((xs.length:Nat):Int) ((xs.length+1:Nat):Int) (dup2 xs y) ((agAt xs y).2.2.2.2.length-1))=dup3 xs x y:=hFS _;have h3A:AllIn (dup3 xs x y):=jF h2A (jT h0) _ hcd;have h3:∀{p},PortIn xs p→PortIn (dup3 xs x y) p:=fun h=>aX (jT h) _
  have hc0:PortIn (dup3 xs x y) (((xs.length:Nat):Int),0):=aX (ng (by decide) (by omega)) _;have hd0:PortIn (dup3 xs x y) (((xs.length+1:Nat):Int),0):=aX (ni (by decide) (by omega)) _;have hm1:=moveA (dup3 xs x y) us (x,1) ((xs.length:Nat),0) h3A (h3 hx1) hc0;rw[←hd3]at hm1;refine Or.inl (eI _ (aI (portS x 1) ?_));refine Or.inl (eI _ (aI (portS _ 0) ?_));refine Or.inr (eI _ (eI _ (aI hm1 ?_)));have hm2:=moveA (bG (dup3 xs x y) (x,1) ((xs.length:Nat),0)) us (x,2) (((xs.length+1:Nat):Int),0) (h3A.move (h3 hx1) hc0) (h3 hx2).move hd0.move
  rw[←hd3]at hm2;refine Or.inl (eI _ (aI (portS x 2) ?_));refine Or.inl (eI _ (aI (portS _ 0) ?_));refine Or.inr (eI _ (eI _ (aI hm2 ?_)));have h4A:AllIn (iT xs x y):=(h3A.move (h3 hx1) hc0).move (h3 hx2).move hd0.move
  have hyi:∀i:Nat,i<((agAt xs y).2.2.2.2.length-1)→PortIn (iT xs x y) (y,((i:Nat):Int)+1)∧PortIn (iT xs x y) (((xs.length+2+i:Nat):Int),0):=fun i hi=>by
   refine⟨(h3 ⟨hy.1,hy.2,by omega,?_⟩).move.move,?_⟩
   ·show((i:Nat):Int)+1<((agAt xs y).2.2.2.2.length:Nat);omega
   ·have:=(nk (x:=x) (c:=((xs.length:Nat):Int)) (d:=((xs.length+1:Nat):Int)) (xs:=dup2 xs y) hi).move (p:=(x,1)) (q:=(((xs.length:Nat):Int),0));have:=this.move (p:=(x,2)) (q:=(((xs.length+1:Nat):Int),0));rw[dM]at this;exact this
  refine lp Nat (fun k=>[(13,.int .i64 ((k+1:Nat):Int))]) (fun k=>[.cel 10000 30 [.sl 20000],.row 20000 131 5 uAgent (bB y (xs.length+2) (iT xs x y) k) us]) (fun k=>((agAt xs y).2.2.2.2.length-1)-k) (fun k=>k≤((agAt xs y).2.2.2.2.length-1)) 0 (Nat.zero_le _) ?_ ?_
  ·refine hd [] rfl (aI (aI rfl rfl) trivial) ⟨trivial,⟨rfl,trivial⟩,⟨?_,pR _⟩,trivial⟩;show bG (bG (aF (agAt xs x).2.1 ((xs.length:Nat):Int) ((xs.length+1:Nat):Int) (dup2 xs y) ((agAt xs y).2.2.2.2.length-1)) (x,1) ((xs.length:Nat),0)) (x,2) (((xs.length+1:Nat):Int),0)=iT xs x y;rw[hd3];rfl
  intro k hk;refine aI (fun q1=> ?_) (fun q1=> ?_)
  ·have q2:((k+1:Nat):Int)<((agAt xs y).2.2.2.2.length:Nat):=by have q2:decide (((k+1:Nat):Int)<((agAt xs y).2.2.2.2.length:Nat))=true:=q1;simpa using q2
   have hyk:=hyi k (by omega);have hrp:=moveA (bB y (xs.length+2) (iT xs x y) k) us (y,((k:Nat):Int)+1) (((xs.length+2+k:Nat):Int),0) (iU h4A k fun i hi=>hyi i (by omega)) (cZ hyk.1 k) (cZ hyk.2 k);have e1:((k:Nat):Int)+1=((k+1:Nat):Int):=by omega
   have e2:((xs.length+2+k:Nat):Int)=IntKind.i64.wrap (((xs.length+1:Nat):Int)+((k+1:Nat):Int)):=by rw[IntWalk.i64_in _ (by omega)];omega
   rw[e1,e2]at hrp;refine Or.inl (eI _ (aI (portS y _) ?_));refine Or.inl (eI _ (aI (portS _ 0) ?_));refine Or.inr (eI _ (eI _ (aI hrp ?_)));refine lp_next (k+1) (by omega) ?_ ?_
   ·refine hd [] rfl (aI (aI (wrapS (by omega)) rfl) trivial) ⟨trivial,⟨rfl,trivial⟩,⟨?_,pR _⟩,trivial⟩;show bG (bB y (xs.length+2) (iT xs x y) k) (y,((k+1:Nat):Int)) (IntKind.i64.wrap (((xs.length+1:Nat):Int)+((k+1:Nat):Int)),0)=bB y (xs.length+2) (iT xs x y) (k+1);rw[←e2,←e1];rfl
   ·show((agAt xs y).2.2.2.2.length-1)-(k+1)<((agAt xs y).2.2.2.2.length-1)-k;omega
  ·have q2:((agAt xs y).2.2.2.2.length:Nat)≤((k+1:Nat):Int):=by have q2:decide (((k+1:Nat):Int)<((agAt xs y).2.2.2.2.length:Nat))=false:=q1;simpa using q2
   have hke:k=((agAt xs y).2.2.2.2.length-1):=by omega
   refine fin [(10002,20000)] (aI rfl ?_);refine⟨trivial,⟨rfl,trivial⟩,⟨?_,pR _⟩,trivial⟩;show bB y (xs.length+2) (iT xs x y) k=aO xs x y;rw[hke];rfl
theorem SH(xs:List NAgent)(us:List Value)(pk:Int)(tr:List Int)(x y:Int)(hA:AllIn xs)(h0:PortIn xs (0,0))(hl:xs.length≤900000)(hx1:PortIn xs (x,1))(hx2:PortIn xs (x,2))(hy:0≤y∧y<(xs.length:Nat))(hp:(agAt xs y).2.2.2.2.length≤1000)(hdt:(agAt xs y).2.2.2.1.length≤1000000)(hp0:0<(agAt xs y).2.2.2.2.length):
  FCall Tryz.prog 139 [.ptr 10000 0,.int .i64 x,.int .i64 y] (tB xs us pk tr) (.tup []) (tBn 10003 (aO xs x y) us pk tr):=by
 have hx:0≤x∧x<(xs.length:Nat):=⟨hx1.1,hx1.2.1⟩;refine FCall.intro (nt:=102) ti_ok mixed ML Tryz.func139 rfl rfl rfl rfl rfl rfl ?_;refine aI hx ?_;refine aI hy ?_;refine Or.inr (eI _ (eI _ (aI (uG xs us y (by omega) (by omega)) ?_)));refine Or.inr (eI _ (eI _ (aI (CG xs us pk tr (agAt xs y).1 (agAt xs y).2.1 (agAt xs y).2.2.1 (agAt xs y).2.2.2.2.length (agAt xs y).2.2.2.1 (by omega) (by omega) (by omega)) ?_)));have hadd2:=CG (xs++[jN xs y]) us pk tr (agAt xs y).1 (agAt xs y).2.1 (agAt xs y).2.2.1 (agAt xs y).2.2.2.2.length (agAt xs y).2.2.2.1 (by rw[List.length_append,List.length_singleton];omega) (by omega) (by omega)
 rw[show(xs++[jN xs y]).length=xs.length+1 by simp]at hadd2;refine Or.inr (eI _ (eI _ (aI hadd2 ?_)));have h2A:=rC (y:=y) hA h0
 have hFS:∀k,(aF (agAt xs x).2.1 ((xs.length:Nat):Int) ((xs.length+1:Nat):Int) (dup2 xs y) k)=bH x ((xs.length:Nat):Int) ((xs.length+1:Nat):Int) (dup2 xs y) k:=fun k=>by
  have h:=(iI (x:=x) (c:=((xs.length:Nat):Int)) (d:=((xs.length+1:Nat):Int)) (xs:=dup2 xs y) (by rw[dM];omega) k).1;have e:(agAt (dup2 xs y) x).2.1=(agAt xs x).2.1:=by unfold dup2;rw[List.append_assoc,bD (by omega)]
  rw[e]at h;exact h
 have hcd:∀i:Nat,i≤((agAt xs y).2.2.2.2.length-1)→PortIn (dup2 xs y) (((xs.length:Nat):Int),(i:Nat))∧PortIn (dup2 xs y) (((xs.length+1:Nat):Int),(i:Nat)):=fun i hi=>⟨ng (by omega) (by omega),ni (by omega) (by omega)⟩
 refine lp Nat (fun k=>[(11,.int .i64 ((k+1:Nat):Int))]) (fun k=>[.cel 10000 66 [.sl 20000,.sl 10002,.int .i64 pk],.row 20000 131 5 uAgent (aF (agAt xs x).2.1 ((xs.length:Nat):Int) ((xs.length+1:Nat):Int) (dup2 xs y) k) us,.row 10002 2 1 (.int .i64) tr []]) (fun k=>((agAt xs y).2.2.2.2.length-1)-k) (fun k=>k≤((agAt xs y).2.2.2.2.length-1)) 0 (Nat.zero_le _) ?_ ?_
 ·exact hd [(20000,53)] rfl (aI (aI rfl rfl) trivial) ⟨trivial,⟨rfl,rfl,⟨rfl,rfl⟩,trivial⟩,⟨rfl,pR _⟩,⟨rfl,nP⟩,trivial⟩
 intro k hk;have hcl:(aF (agAt xs x).2.1 ((xs.length:Nat):Int) ((xs.length+1:Nat):Int) (dup2 xs y) k).length=xs.length+2+k:=by rw[hFS,fE,dM]
 refine aI (fun q1=> ?_) (fun q1=> ?_)
 ·have q2:((k+1:Nat):Int)<((agAt xs y).2.2.2.2.length:Nat):=by have q2:decide (((k+1:Nat):Int)<((agAt xs y).2.2.2.2.length:Nat))=true:=q1;simpa using q2
  refine Or.inr (eI _ (eI _ (aI (qg (aF (agAt xs x).2.1 ((xs.length:Nat):Int) ((xs.length+1:Nat):Int) (dup2 xs y) k) us pk tr 4 (agAt xs x).2.1 0 3 (by rw[hcl];omega) (by omega)) ?_)));have hc:=hcd (k+1) (by omega);have hin:∀{p},PortIn (dup2 xs y) p→PortIn (aF (agAt xs x).2.1 ((xs.length:Nat):Int) ((xs.length+1:Nat):Int) (dup2 xs y) k) p:=fun h=>by rw[hFS];exact aX h k
  refine Or.inl (eI _ (aI (portS _ 1) ?_));refine Or.inl (eI _ (aI (portS _ _) ?_));refine Or.inr (eI _ (eI _ (aI (BK ((aF (agAt xs x).2.1 ((xs.length:Nat):Int) ((xs.length+1:Nat):Int) (dup2 xs y) k)++[aJ 4 (agAt xs x).2.1 0 [] 3]) us pk tr (((aF (agAt xs x).2.1 ((xs.length:Nat):Int) ((xs.length+1:Nat):Int) (dup2 xs y) k).length:Nat),1) (((xs.length:Nat):Int),((k+1:Nat):Int)) (PortIn.new (by decide) (by decide)) (hin hc.1).app) ?_)));refine Or.inl (eI _ (aI (portS _ 2) ?_));refine Or.inl (eI _ (aI (portS _ _) ?_));refine Or.inr (eI _ (eI _ (aI (BK (aR ((aF (agAt xs x).2.1 ((xs.length:Nat):Int) ((xs.length+1:Nat):Int) (dup2 xs y) k)++[aJ 4 (agAt xs x).2.1 0 [] 3]) (((aF (agAt xs x).2.1 ((xs.length:Nat):Int) ((xs.length+1:Nat):Int) (dup2 xs y) k).length:Nat),1) (((xs.length:Nat):Int),((k+1:Nat):Int))) us pk tr (((aF (agAt xs x).2.1 ((xs.length:Nat):Int) ((xs.length+1:Nat):Int) (dup2 xs y) k).length:Nat),2) (((xs.length+1:Nat):Int),((k+1:Nat):Int)) (PortIn.link (PortIn.new (by decide) (by decide))) (hin hc.2).app.link) ?_)))
  refine lp_next (k+1) (by omega) ?_ ?_
  ·exact hd [(20000,61)] rfl (aI (aI (wrapS (by omega)) rfl) trivial) ⟨trivial,⟨rfl,rfl,⟨rfl,rfl⟩,trivial⟩,⟨rfl,pR _⟩,⟨rfl,nP⟩,trivial⟩
  ·show((agAt xs y).2.2.2.2.length-1)-(k+1)<((agAt xs y).2.2.2.2.length-1)-k;omega
 ·have q2:((agAt xs y).2.2.2.2.length:Nat)≤((k+1:Nat):Int):=by have q2:decide (((k+1:Nat):Int)<((agAt xs y).2.2.2.2.length:Nat))=false:=q1;simpa using q2
  have hke:k=((agAt xs y).2.2.2.2.length-1):=by omega
  subst hke;have hd3:(aF (agAt xs x).2.1 ((xs.length:Nat):Int) ((xs.length+1:Nat):Int) (dup2 xs y) ((agAt xs y).2.2.2.2.length-1))=dup3 xs x y:=hFS _;have h3A:AllIn (dup3 xs x y):=jF h2A (jT h0) _ hcd;have h3:∀{p},PortIn xs p→PortIn (dup3 xs x y) p:=fun h=>aX (jT h) _
  have hc0:PortIn (dup3 xs x y) (((xs.length:Nat):Int),0):=aX (ng (by decide) (by omega)) _;have hd0:PortIn (dup3 xs x y) (((xs.length+1:Nat):Int),0):=aX (ni (by decide) (by omega)) _;have hm1:=moveB (dup3 xs x y) us pk tr (x,1) ((xs.length:Nat),0) h3A (h3 hx1) hc0;rw[←hd3]at hm1;refine Or.inl (eI _ (aI (portS x 1) ?_));refine Or.inl (eI _ (aI (portS _ 0) ?_));refine Or.inr (eI _ (eI _ (aI hm1 ?_)));have hm2:=moveB (bG (dup3 xs x y) (x,1) ((xs.length:Nat),0)) us pk tr (x,2) (((xs.length+1:Nat):Int),0) (h3A.move (h3 hx1) hc0) (h3 hx2).move hd0.move
  rw[←hd3]at hm2;refine Or.inl (eI _ (aI (portS x 2) ?_));refine Or.inl (eI _ (aI (portS _ 0) ?_));refine Or.inr (eI _ (eI _ (aI hm2 ?_)));have h4A:AllIn (iT xs x y):=(h3A.move (h3 hx1) hc0).move (h3 hx2).move hd0.move
  have hyi:∀i:Nat,i<((agAt xs y).2.2.2.2.length-1)→PortIn (iT xs x y) (y,((i:Nat):Int)+1)∧PortIn (iT xs x y) (((xs.length+2+i:Nat):Int),0):=fun i hi=>by
   refine⟨(h3 ⟨hy.1,hy.2,by omega,?_⟩).move.move,?_⟩
   ·show((i:Nat):Int)+1<((agAt xs y).2.2.2.2.length:Nat);omega
   ·have:=(nk (x:=x) (c:=((xs.length:Nat):Int)) (d:=((xs.length+1:Nat):Int)) (xs:=dup2 xs y) hi).move (p:=(x,1)) (q:=(((xs.length:Nat):Int),0));have:=this.move (p:=(x,2)) (q:=(((xs.length+1:Nat):Int),0));rw[dM]at this;exact this
  refine lp Nat (fun k=>[(13,.int .i64 ((k+1:Nat):Int))]) (fun k=>[.cel 10000 66 [.sl 20000,.sl 10002,.int .i64 pk],.row 20000 131 5 uAgent (bB y (xs.length+2) (iT xs x y) k) us,.row 10002 2 1 (.int .i64) tr []]) (fun k=>((agAt xs y).2.2.2.2.length-1)-k) (fun k=>k≤((agAt xs y).2.2.2.2.length-1)) 0 (Nat.zero_le _) ?_ ?_
  ·refine hd [] rfl (aI (aI rfl rfl) trivial) ⟨trivial,⟨rfl,rfl,⟨rfl,rfl⟩,trivial⟩,⟨?_,pR _⟩,⟨rfl,nP⟩,trivial⟩;show bG (bG (aF (agAt xs x).2.1 ((xs.length:Nat):Int) ((xs.length+1:Nat):Int) (dup2 xs y) ((agAt xs y).2.2.2.2.length-1)) (x,1) ((xs.length:Nat),0)) (x,2) (((xs.length+1:Nat):Int),0)=iT xs x y;rw[hd3];rfl
  intro k hk;refine aI (fun q1=> ?_) (fun q1=> ?_)
  ·have q2:((k+1:Nat):Int)<((agAt xs y).2.2.2.2.length:Nat):=by have q2:decide (((k+1:Nat):Int)<((agAt xs y).2.2.2.2.length:Nat))=true:=q1;simpa using q2
   have hyk:=hyi k (by omega);have hrp:=moveB (bB y (xs.length+2) (iT xs x y) k) us pk tr (y,((k:Nat):Int)+1) (((xs.length+2+k:Nat):Int),0) (iU h4A k fun i hi=>hyi i (by omega)) (cZ hyk.1 k) (cZ hyk.2 k);have e1:((k:Nat):Int)+1=((k+1:Nat):Int):=by omega
   have e2:((xs.length+2+k:Nat):Int)=IntKind.i64.wrap (((xs.length+1:Nat):Int)+((k+1:Nat):Int)):=by rw[IntWalk.i64_in _ (by omega)];omega
   rw[e1,e2]at hrp;refine Or.inl (eI _ (aI (portS y _) ?_));refine Or.inl (eI _ (aI (portS _ 0) ?_));refine Or.inr (eI _ (eI _ (aI hrp ?_)));refine lp_next (k+1) (by omega) ?_ ?_
   ·refine hd [] rfl (aI (aI (wrapS (by omega)) rfl) trivial) ⟨trivial,⟨rfl,rfl,⟨rfl,rfl⟩,trivial⟩,⟨?_,pR _⟩,⟨rfl,nP⟩,trivial⟩;show bG (bB y (xs.length+2) (iT xs x y) k) (y,((k+1:Nat):Int)) (IntKind.i64.wrap (((xs.length+1:Nat):Int)+((k+1:Nat):Int)),0)=bB y (xs.length+2) (iT xs x y) (k+1);rw[←e2,←e1];rfl
   ·show((agAt xs y).2.2.2.2.length-1)-(k+1)<((agAt xs y).2.2.2.2.length-1)-k;omega
  ·have q2:((agAt xs y).2.2.2.2.length:Nat)≤((k+1:Nat):Int):=by have q2:decide (((k+1:Nat):Int)<((agAt xs y).2.2.2.2.length:Nat))=false:=q1;simpa using q2
   have hke:k=((agAt xs y).2.2.2.2.length-1):=by omega
   refine fin [(10003,20000)] (aI rfl ?_);refine⟨trivial,⟨rfl,rfl,⟨rfl,rfl⟩,trivial⟩,⟨?_,pR _⟩,⟨rfl,nP⟩,trivial⟩;show bB y (xs.length+2) (iT xs x y) k=aO xs x y;rw[hke];rfl
theorem MO:callOk Tryz.prog 144=true:=by kernel_rfl
theorem expA(t:List NAgent)(xs:List NAgent)(us:List Value)(x y:Int)(lv:Int)(hlv0:(agAt xs x).2.1=lv)(hx:0≤x∧x<(xs.length:Nat))(hl:xs.length≤900000)(hs:NetSmall t)(ht:1≤t.length)(htl:t.length≤1000)(ht0:0<(agAt t 0).2.2.2.2.length)(hlv1:0≤lv∧lv≤8)(hlt8:∀i:Nat,0≤(agAt t i).2.1∧(agAt t i).2.1≤8)
  (hpt:∀i j:Nat,oN (elt (dflt uPort) (agAt t (i:Nat)).2.2.2.2 (j:Nat)).1) (hy:PortIn xs (y,0)) (htop:PortIn (xs++gD lv ((xs.length:Nat)-1:Int) t (t.length-1)) (((xs.length:Nat)-1:Int)+(peerN t (0,0)).1,(peerN t (0,0)).2)):
  FCall Tryz.prog 144 [.rp uNet t,.ptr 10000 0,.int .i64 x,.int .i64 y] (tA xs us) (.tup []) (N8 10002 (bZ t lv xs y) us):=by
 subst hlv0;refine FCall.intro (nt:=99) ti_ok mixed MO Tryz.func144 rfl rfl rfl rfl rfl rfl ?_;refine aI hx ?_;have hwb:IntKind.i64.wrap ((xs.length:Nat)-1)=((xs.length:Nat)-1:Int):=IntWalk.i64_in _ (by omega);generalize hlve:(agAt xs x).2.1=lv at*;refine lp Nat (fun k=>[(10,.int .i64 ((k+1:Nat):Int)),(8,.int .i64 lv),(9,.int .i64 ((xs.length:Nat)-1:Int))]) (fun k=>[.cel 10000 30 [.sl 20000],.row 20000 131 5 uAgent (xs++gD lv ((xs.length:Nat)-1:Int) t k) us]) (fun k=>t.length-1-k) (fun k=>k+1≤t.length) 0 ht ?_ ?_
 ·refine hd [(20000,10001)] rfl (aI (aI rfl rfl) (aI (aI hlve rfl) (aI (aI hwb rfl) trivial))) ⟨trivial,⟨rfl,trivial⟩,⟨?_,pR _⟩,trivial⟩;show xs=(xs++gD lv ((xs.length:Nat)-1:Int) t 0);unfold gD;simp
 intro k hk;refine aI (fun q1=> ?_) (fun q1=> ?_)
 ·have hlt:k+1<t.length:=by
   have q2:decide (((k+1:Nat):Int)<(t.length:Nat))=true:=q1;have q3:((k+1:Nat):Int)<(t.length:Nat):=by simpa using q2
   omega
  refine aI (show 0≤((k+1:Nat):Int)∧((k+1:Nat):Int)<(t.length:Nat) by omega) ?_;refine Or.inr (eI _ (eI _ (aI (DN (agAt t ((k+1:Nat):Int)) (hs.2 (k+1)).1 (hs.2 (k+1)).2) ?_)));refine Or.inl (eI _ (aI (yH _) ?_));have hl8:=hlt8 (k+1);refine aI (fun q2=> ?_) (fun q2=> ?_)
  ·have hlev:aU (agAt t ((k+1:Nat):Int)).1=true:=q2;refine lp Nat (fun j=>[(12,.int .i64 (j:Nat))]) (fun j=>[.cel 11 131 [.int .i64 (agAt t ((k+1:Nat):Int)).1,.int .i64 (IntKind.i64.wrap ((agAt t ((k+1:Nat):Int)).2.1+lv)),.int .i64 (agAt t ((k+1:Nat):Int)).2.2.1,.sl 43,.sl 21001],.cel 10000 30 [.sl 21000],.row 21000 131 5 uAgent (xs++gD lv ((xs.length:Nat)-1:Int) t k) us,.row 43 2 1 (.int .i64) (agAt t ((k+1:Nat):Int)).2.2.2.1 [],.row 21001 102 2 uPort (bM ((xs.length:Nat)-1:Int) (agAt t ((k+1:Nat):Int)).2.2.2.2 j) []]) (fun j=>(agAt t ((k+1:Nat):Int)).2.2.2.2.length-j) (fun j=>j≤(agAt t ((k+1:Nat):Int)).2.2.2.2.length) 0 (Nat.zero_le _) ?_ ?_
   ·exact hd [(21000,20000),(21001,1000043)] rfl (aI (aI rfl rfl) trivial) ⟨trivial,⟨⟨rfl,rfl⟩,⟨rfl,rfl⟩,⟨rfl,rfl⟩,rfl,rfl,trivial⟩,trivial,⟨rfl,trivial⟩,⟨rfl,pR _⟩,⟨rfl,nP⟩,⟨rfl,nP⟩,trivial⟩
   intro j hj;refine aI (fun q3=> ?_) (fun q3=> ?_)
   ·have hlt2:j<(agAt t ((k+1:Nat):Int)).2.2.2.2.length:=by
     have q4:decide (((j:Nat):Int)<((bM ((xs.length:Nat)-1:Int) (agAt t ((k+1:Nat):Int)).2.2.2.2 j).length:Nat))=true:=q3;rw[fD]at q4;simpa using q4
    have hpv:oN (elt (dflt uPort) (agAt t ((k+1:Nat):Int)).2.2.2.2 (j:Nat)).1:=hpt (k+1) j;unfold oN at hpv;have hps:(agAt t ((k+1:Nat):Int)).2.2.2.2.length≤1048576:=(hs.2 (k+1)).2;have hat:elt (dflt uPort) (bM ((xs.length:Nat)-1:Int) (agAt t ((k+1:Nat):Int)).2.2.2.2 j) (j:Nat)=elt (dflt uPort) (agAt t ((k+1:Nat):Int)).2.2.2.2 (j:Nat):=pJ hlt2;have hw:IntKind.i64.wrap ((elt (dflt uPort) (agAt t ((k+1:Nat):Int)).2.2.2.2 (j:Nat)).1+((xs.length:Nat)-1:Int))=(elt (dflt uPort) (agAt t ((k+1:Nat):Int)).2.2.2.2 (j:Nat)).1+((xs.length:Nat)-1:Int):=IntWalk.i64_in _ (by omega)
    have hbnd:0≤((j:Nat):Int)∧((j:Nat):Int)<((bM ((xs.length:Nat)-1:Int) (agAt t ((k+1:Nat):Int)).2.2.2.2 j).length:Nat):=by rw[fD];omega
    refine aI hbnd ?_;refine aI hbnd ?_;refine lp_next (j+1) hlt2 ?_ ?_
    ·refine hd [] rfl (aI (aI (wrapS (by omega)) rfl) trivial) ⟨trivial,⟨⟨rfl,rfl⟩,⟨rfl,rfl⟩,⟨rfl,rfl⟩,rfl,rfl,trivial⟩,trivial,⟨rfl,trivial⟩,⟨rfl,pR _⟩,⟨rfl,nP⟩,⟨?_,nP⟩,trivial⟩;show(bM ((xs.length:Nat)-1:Int) (agAt t ((k+1:Nat):Int)).2.2.2.2 j).set j (IntKind.i64.wrap ((elt (dflt uPort) (bM ((xs.length:Nat)-1:Int) (agAt t ((k+1:Nat):Int)).2.2.2.2 j) (j:Nat)).1+((xs.length:Nat)-1:Int)),(elt (dflt uPort) (bM ((xs.length:Nat)-1:Int) (agAt t ((k+1:Nat):Int)).2.2.2.2 j) (j:Nat)).2)=bM ((xs.length:Nat)-1:Int) (agAt t ((k+1:Nat):Int)).2.2.2.2 (j+1)
     rw[nL hlt2,hat,hw]
    ·show(agAt t ((k+1:Nat):Int)).2.2.2.2.length-(j+1)<(agAt t ((k+1:Nat):Int)).2.2.2.2.length-j;omega
   have hje:j=(agAt t ((k+1:Nat):Int)).2.2.2.2.length:=by
    have q4:decide (((j:Nat):Int)<((bM ((xs.length:Nat)-1:Int) (agAt t ((k+1:Nat):Int)).2.2.2.2 j).length:Nat))=false:=q3;rw[fD]at q4;have q5:(agAt t ((k+1:Nat):Int)).2.2.2.2.length≤j:=by simpa using q4
    omega
   refine aI (by show(xs++gD lv ((xs.length:Nat)-1:Int) t k).length+1≤_;rw[List.length_append,vF (by omega)];have:=hs.1;omega) ?_;refine aI (by kernel_rfl) ?_;refine lp_next (k+1) (by show k+1+1≤t.length;omega) ?_ ?_
   ·refine hd [(20000,76)] rfl (aI (aI (wrapS (by have:=hs.1;omega)) rfl) (aI (aI rfl rfl) (aI (aI rfl rfl) trivial))) ⟨trivial,⟨rfl,trivial⟩,⟨?_,pR _⟩,trivial⟩;show(xs++gD lv ((xs.length:Nat)-1:Int) t k)++[((agAt t ((k+1:Nat):Int)).1,(IntKind.i64.wrap ((agAt t ((k+1:Nat):Int)).2.1+lv)),(agAt t ((k+1:Nat):Int)).2.2.1,(agAt t ((k+1:Nat):Int)).2.2.2.1,bM ((xs.length:Nat)-1:Int) (agAt t ((k+1:Nat):Int)).2.2.2.2 j)]=(xs++gD lv ((xs.length:Nat)-1:Int) t (k+1));rw[sG hlt,hje,pI,List.append_assoc]
    congr 2
    unfold bg fH;rw[show aU (agAt t ((k+1:Nat):Int)).kind=true from hlev,IntWalk.i64_in _ (by omega)];rfl
   ·show t.length-1-(k+1)<t.length-1-k;omega
  ·have hlev:aU (agAt t ((k+1:Nat):Int)).1=false:=q2;refine lp Nat (fun j=>[(12,.int .i64 (j:Nat))]) (fun j=>[.cel 11 131 [.int .i64 (agAt t ((k+1:Nat):Int)).1,.int .i64 (agAt t ((k+1:Nat):Int)).2.1,.int .i64 (agAt t ((k+1:Nat):Int)).2.2.1,.sl 43,.sl 21001],.cel 10000 30 [.sl 21000],.row 21000 131 5 uAgent (xs++gD lv ((xs.length:Nat)-1:Int) t k) us,.row 43 2 1 (.int .i64) (agAt t ((k+1:Nat):Int)).2.2.2.1 [],.row 21001 102 2 uPort (bM ((xs.length:Nat)-1:Int) (agAt t ((k+1:Nat):Int)).2.2.2.2 j) []]) (fun j=>(agAt t ((k+1:Nat):Int)).2.2.2.2.length-j) (fun j=>j≤(agAt t ((k+1:Nat):Int)).2.2.2.2.length) 0 (Nat.zero_le _) ?_ ?_
   ·exact hd [(21000,20000),(21001,1000043)] rfl (aI (aI rfl rfl) trivial) ⟨trivial,⟨⟨rfl,rfl⟩,⟨rfl,rfl⟩,⟨rfl,rfl⟩,rfl,rfl,trivial⟩,trivial,⟨rfl,trivial⟩,⟨rfl,pR _⟩,⟨rfl,nP⟩,⟨rfl,nP⟩,trivial⟩
   intro j hj;refine aI (fun q3=> ?_) (fun q3=> ?_)
   ·have hlt2:j<(agAt t ((k+1:Nat):Int)).2.2.2.2.length:=by
     have q4:decide (((j:Nat):Int)<((bM ((xs.length:Nat)-1:Int) (agAt t ((k+1:Nat):Int)).2.2.2.2 j).length:Nat))=true:=q3;rw[fD]at q4;simpa using q4
    have hpv:oN (elt (dflt uPort) (agAt t ((k+1:Nat):Int)).2.2.2.2 (j:Nat)).1:=hpt (k+1) j;unfold oN at hpv;have hps:(agAt t ((k+1:Nat):Int)).2.2.2.2.length≤1048576:=(hs.2 (k+1)).2;have hat:elt (dflt uPort) (bM ((xs.length:Nat)-1:Int) (agAt t ((k+1:Nat):Int)).2.2.2.2 j) (j:Nat)=elt (dflt uPort) (agAt t ((k+1:Nat):Int)).2.2.2.2 (j:Nat):=pJ hlt2;have hw:IntKind.i64.wrap ((elt (dflt uPort) (agAt t ((k+1:Nat):Int)).2.2.2.2 (j:Nat)).1+((xs.length:Nat)-1:Int))=(elt (dflt uPort) (agAt t ((k+1:Nat):Int)).2.2.2.2 (j:Nat)).1+((xs.length:Nat)-1:Int):=IntWalk.i64_in _ (by omega)
    have hbnd:0≤((j:Nat):Int)∧((j:Nat):Int)<((bM ((xs.length:Nat)-1:Int) (agAt t ((k+1:Nat):Int)).2.2.2.2 j).length:Nat):=by rw[fD];omega
    refine aI hbnd ?_;refine aI hbnd ?_;refine lp_next (j+1) hlt2 ?_ ?_
    ·refine hd [] rfl (aI (aI (wrapS (by omega)) rfl) trivial) ⟨trivial,⟨⟨rfl,rfl⟩,⟨rfl,rfl⟩,⟨rfl,rfl⟩,rfl,rfl,trivial⟩,trivial,⟨rfl,trivial⟩,⟨rfl,pR _⟩,⟨rfl,nP⟩,⟨?_,nP⟩,trivial⟩;show(bM ((xs.length:Nat)-1:Int) (agAt t ((k+1:Nat):Int)).2.2.2.2 j).set j (IntKind.i64.wrap ((elt (dflt uPort) (bM ((xs.length:Nat)-1:Int) (agAt t ((k+1:Nat):Int)).2.2.2.2 j) (j:Nat)).1+((xs.length:Nat)-1:Int)),(elt (dflt uPort) (bM ((xs.length:Nat)-1:Int) (agAt t ((k+1:Nat):Int)).2.2.2.2 j) (j:Nat)).2)=bM ((xs.length:Nat)-1:Int) (agAt t ((k+1:Nat):Int)).2.2.2.2 (j+1)
     rw[nL hlt2,hat,hw]
    ·show(agAt t ((k+1:Nat):Int)).2.2.2.2.length-(j+1)<(agAt t ((k+1:Nat):Int)).2.2.2.2.length-j;omega
   have hje:j=(agAt t ((k+1:Nat):Int)).2.2.2.2.length:=by
    have q4:decide (((j:Nat):Int)<((bM ((xs.length:Nat)-1:Int) (agAt t ((k+1:Nat):Int)).2.2.2.2 j).length:Nat))=false:=q3;rw[fD]at q4;have q5:(agAt t ((k+1:Nat):Int)).2.2.2.2.length≤j:=by simpa using q4
    omega
   refine aI (by show(xs++gD lv ((xs.length:Nat)-1:Int) t k).length+1≤_;rw[List.length_append,vF (by omega)];have:=hs.1;omega) ?_;refine aI (by kernel_rfl) ?_;refine lp_next (k+1) (by show k+1+1≤t.length;omega) ?_ ?_
   ·refine hd [(20000,76)] rfl (aI (aI (wrapS (by have:=hs.1;omega)) rfl) (aI (aI rfl rfl) (aI (aI rfl rfl) trivial))) ⟨trivial,⟨rfl,trivial⟩,⟨?_,pR _⟩,trivial⟩;show(xs++gD lv ((xs.length:Nat)-1:Int) t k)++[((agAt t ((k+1:Nat):Int)).1,(agAt t ((k+1:Nat):Int)).2.1,(agAt t ((k+1:Nat):Int)).2.2.1,(agAt t ((k+1:Nat):Int)).2.2.2.1,bM ((xs.length:Nat)-1:Int) (agAt t ((k+1:Nat):Int)).2.2.2.2 j)]=(xs++gD lv ((xs.length:Nat)-1:Int) t (k+1));rw[sG hlt,hje,pI,List.append_assoc]
    congr 2
    unfold bg fH;rw[show aU (agAt t ((k+1:Nat):Int)).kind=false from hlev];rfl
   ·show t.length-1-(k+1)<t.length-1-k;omega
 ·have hke:k=t.length-1:=by
   have q2:decide (((k+1:Nat):Int)<(t.length:Nat))=false:=q1;have q3:(t.length:Nat)≤((k+1:Nat):Int):=by simpa using q2
   omega
  subst hke;refine aI (show(0:Int)≤0∧(0:Int)<(t.length:Nat) by omega) ?_;refine aI (show(0:Int)≤0∧(0:Int)<((agAt t 0).2.2.2.2.length:Nat) by omega) ?_;have hp0:oN (peerN t (0,0)).1:=hpt 0 0;unfold oN at hp0;have hw:IntKind.i64.wrap (((xs.length:Nat)-1:Int)+(peerN t (0,0)).1)=((xs.length:Nat)-1:Int)+(peerN t (0,0)).1:=IntWalk.i64_in _ (by omega);have hlk:=BJ (xs++gD lv ((xs.length:Nat)-1:Int) t (t.length-1)) us (((xs.length:Nat)-1:Int)+(peerN t (0,0)).1,(peerN t (0,0)).2) (y,0) htop hy.app;rw[←hw]at hlk
  refine Or.inl (eI _ (aI (portS _ _) ?_));refine Or.inl (eI _ (aI (portS y 0) ?_));refine Or.inr (eI _ (eI _ (aI hlk ?_)));refine fin [(10002,20000)] (aI rfl ?_);refine⟨trivial,⟨rfl,trivial⟩,⟨?_,pR _⟩,trivial⟩;show aR (xs++gD lv ((xs.length:Nat)-1:Int) t (t.length-1)) (IntKind.i64.wrap (((xs.length:Nat)-1:Int)+(peerN t (0,0)).1),(peerN t (0,0)).2) (y,0)=bZ t lv xs y;rw[hw];rfl
theorem Uq(t:List NAgent)(xs:List NAgent)(us:List Value)(pk:Int)(tr:List Int)(x y:Int)(lv:Int)(hlv0:(agAt xs x).2.1=lv)(hx:0≤x∧x<(xs.length:Nat))(hl:xs.length≤900000)(hs:NetSmall t)(ht:1≤t.length)(htl:t.length≤1000)(ht0:0<(agAt t 0).2.2.2.2.length)(hlv1:0≤lv∧lv≤8)(hlt8:∀i:Nat,0≤(agAt t i).2.1∧(agAt t i).2.1≤8)
  (hpt:∀i j:Nat,oN (elt (dflt uPort) (agAt t (i:Nat)).2.2.2.2 (j:Nat)).1) (hy:PortIn xs (y,0)) (htop:PortIn (xs++gD lv ((xs.length:Nat)-1:Int) t (t.length-1)) (((xs.length:Nat)-1:Int)+(peerN t (0,0)).1,(peerN t (0,0)).2)):
  FCall Tryz.prog 144 [.rp uNet t,.ptr 10000 0,.int .i64 x,.int .i64 y] (tB xs us pk tr) (.tup []) (tBn 10003 (bZ t lv xs y) us pk tr):=by
 subst hlv0;refine FCall.intro (nt:=99) ti_ok mixed MO Tryz.func144 rfl rfl rfl rfl rfl rfl ?_;refine aI hx ?_;have hwb:IntKind.i64.wrap ((xs.length:Nat)-1)=((xs.length:Nat)-1:Int):=IntWalk.i64_in _ (by omega);generalize hlve:(agAt xs x).2.1=lv at*;refine lp Nat (fun k=>[(10,.int .i64 ((k+1:Nat):Int)),(8,.int .i64 lv),(9,.int .i64 ((xs.length:Nat)-1:Int))]) (fun k=>[.cel 10000 66 [.sl 20000,.sl 10002,.int .i64 pk],.row 20000 131 5 uAgent (xs++gD lv ((xs.length:Nat)-1:Int) t k) us,.row 10002 2 1 (.int .i64) tr []]) (fun k=>t.length-1-k) (fun k=>k+1≤t.length) 0 ht ?_ ?_
 ·refine hd [(20000,10001)] rfl (aI (aI rfl rfl) (aI (aI hlve rfl) (aI (aI hwb rfl) trivial))) ⟨trivial,⟨rfl,rfl,⟨rfl,rfl⟩,trivial⟩,⟨?_,pR _⟩,⟨rfl,nP⟩,trivial⟩;show xs=(xs++gD lv ((xs.length:Nat)-1:Int) t 0);unfold gD;simp
 intro k hk;refine aI (fun q1=> ?_) (fun q1=> ?_)
 ·have hlt:k+1<t.length:=by
   have q2:decide (((k+1:Nat):Int)<(t.length:Nat))=true:=q1;have q3:((k+1:Nat):Int)<(t.length:Nat):=by simpa using q2
   omega
  refine aI (show 0≤((k+1:Nat):Int)∧((k+1:Nat):Int)<(t.length:Nat) by omega) ?_;refine Or.inr (eI _ (eI _ (aI (DN (agAt t ((k+1:Nat):Int)) (hs.2 (k+1)).1 (hs.2 (k+1)).2) ?_)));refine Or.inl (eI _ (aI (yH _) ?_));have hl8:=hlt8 (k+1);refine aI (fun q2=> ?_) (fun q2=> ?_)
  ·have hlev:aU (agAt t ((k+1:Nat):Int)).1=true:=q2;refine lp Nat (fun j=>[(12,.int .i64 (j:Nat))]) (fun j=>[.cel 11 131 [.int .i64 (agAt t ((k+1:Nat):Int)).1,.int .i64 (IntKind.i64.wrap ((agAt t ((k+1:Nat):Int)).2.1+lv)),.int .i64 (agAt t ((k+1:Nat):Int)).2.2.1,.sl 43,.sl 21001],.cel 10000 66 [.sl 21000,.sl 10002,.int .i64 pk],.row 21000 131 5 uAgent (xs++gD lv ((xs.length:Nat)-1:Int) t k) us,.row 10002 2 1 (.int .i64) tr [],.row 43 2 1 (.int .i64) (agAt t ((k+1:Nat):Int)).2.2.2.1 [],.row 21001 102 2 uPort (bM ((xs.length:Nat)-1:Int) (agAt t ((k+1:Nat):Int)).2.2.2.2 j) []]) (fun j=>(agAt t ((k+1:Nat):Int)).2.2.2.2.length-j) (fun j=>j≤(agAt t ((k+1:Nat):Int)).2.2.2.2.length) 0 (Nat.zero_le _) ?_ ?_
   ·exact hd [(21000,20000),(21001,1000043)] rfl (aI (aI rfl rfl) trivial) ⟨trivial,⟨⟨rfl,rfl⟩,⟨rfl,rfl⟩,⟨rfl,rfl⟩,rfl,rfl,trivial⟩,trivial,⟨rfl,rfl,⟨rfl,rfl⟩,trivial⟩,⟨rfl,pR _⟩,⟨rfl,nP⟩,⟨rfl,nP⟩,⟨rfl,nP⟩,trivial⟩
   intro j hj;refine aI (fun q3=> ?_) (fun q3=> ?_)
   ·have hlt2:j<(agAt t ((k+1:Nat):Int)).2.2.2.2.length:=by
     have q4:decide (((j:Nat):Int)<((bM ((xs.length:Nat)-1:Int) (agAt t ((k+1:Nat):Int)).2.2.2.2 j).length:Nat))=true:=q3;rw[fD]at q4;simpa using q4
    have hpv:oN (elt (dflt uPort) (agAt t ((k+1:Nat):Int)).2.2.2.2 (j:Nat)).1:=hpt (k+1) j;unfold oN at hpv;have hps:(agAt t ((k+1:Nat):Int)).2.2.2.2.length≤1048576:=(hs.2 (k+1)).2;have hat:elt (dflt uPort) (bM ((xs.length:Nat)-1:Int) (agAt t ((k+1:Nat):Int)).2.2.2.2 j) (j:Nat)=elt (dflt uPort) (agAt t ((k+1:Nat):Int)).2.2.2.2 (j:Nat):=pJ hlt2;have hw:IntKind.i64.wrap ((elt (dflt uPort) (agAt t ((k+1:Nat):Int)).2.2.2.2 (j:Nat)).1+((xs.length:Nat)-1:Int))=(elt (dflt uPort) (agAt t ((k+1:Nat):Int)).2.2.2.2 (j:Nat)).1+((xs.length:Nat)-1:Int):=IntWalk.i64_in _ (by omega)
    have hbnd:0≤((j:Nat):Int)∧((j:Nat):Int)<((bM ((xs.length:Nat)-1:Int) (agAt t ((k+1:Nat):Int)).2.2.2.2 j).length:Nat):=by rw[fD];omega
    refine aI hbnd ?_;refine aI hbnd ?_;refine lp_next (j+1) hlt2 ?_ ?_
    ·refine hd [] rfl (aI (aI (wrapS (by omega)) rfl) trivial) ⟨trivial,⟨⟨rfl,rfl⟩,⟨rfl,rfl⟩,⟨rfl,rfl⟩,rfl,rfl,trivial⟩,trivial,⟨rfl,rfl,⟨rfl,rfl⟩,trivial⟩,⟨rfl,pR _⟩,⟨rfl,nP⟩,⟨rfl,nP⟩,⟨?_,nP⟩,trivial⟩;show(bM ((xs.length:Nat)-1:Int) (agAt t ((k+1:Nat):Int)).2.2.2.2 j).set j (IntKind.i64.wrap ((elt (dflt uPort) (bM ((xs.length:Nat)-1:Int) (agAt t ((k+1:Nat):Int)).2.2.2.2 j) (j:Nat)).1+((xs.length:Nat)-1:Int)),(elt (dflt uPort) (bM ((xs.length:Nat)-1:Int) (agAt t ((k+1:Nat):Int)).2.2.2.2 j) (j:Nat)).2)=bM ((xs.length:Nat)-1:Int) (agAt t ((k+1:Nat):Int)).2.2.2.2 (j+1)
     rw[nL hlt2,hat,hw]
    ·show(agAt t ((k+1:Nat):Int)).2.2.2.2.length-(j+1)<(agAt t ((k+1:Nat):Int)).2.2.2.2.length-j;omega
   have hje:j=(agAt t ((k+1:Nat):Int)).2.2.2.2.length:=by
    have q4:decide (((j:Nat):Int)<((bM ((xs.length:Nat)-1:Int) (agAt t ((k+1:Nat):Int)).2.2.2.2 j).length:Nat))=false:=q3;rw[fD]at q4;have q5:(agAt t ((k+1:Nat):Int)).2.2.2.2.length≤j:=by simpa using q4
    omega
   refine aI (by show(xs++gD lv ((xs.length:Nat)-1:Int) t k).length+1≤_;rw[List.length_append,vF (by omega)];have:=hs.1;omega) ?_;refine aI (by kernel_rfl) ?_;refine lp_next (k+1) (by show k+1+1≤t.length;omega) ?_ ?_
   ·refine hd [(20000,76)] rfl (aI (aI (wrapS (by have:=hs.1;omega)) rfl) (aI (aI rfl rfl) (aI (aI rfl rfl) trivial))) ⟨trivial,⟨rfl,rfl,⟨rfl,rfl⟩,trivial⟩,⟨?_,pR _⟩,⟨rfl,nP⟩,trivial⟩;show(xs++gD lv ((xs.length:Nat)-1:Int) t k)++[((agAt t ((k+1:Nat):Int)).1,(IntKind.i64.wrap ((agAt t ((k+1:Nat):Int)).2.1+lv)),(agAt t ((k+1:Nat):Int)).2.2.1,(agAt t ((k+1:Nat):Int)).2.2.2.1,bM ((xs.length:Nat)-1:Int) (agAt t ((k+1:Nat):Int)).2.2.2.2 j)]=(xs++gD lv ((xs.length:Nat)-1:Int) t (k+1));rw[sG hlt,hje,pI,List.append_assoc]
    congr 2
    unfold bg fH;rw[show aU (agAt t ((k+1:Nat):Int)).kind=true from hlev,IntWalk.i64_in _ (by omega)];rfl
   ·show t.length-1-(k+1)<t.length-1-k;omega
  ·have hlev:aU (agAt t ((k+1:Nat):Int)).1=false:=q2;refine lp Nat (fun j=>[(12,.int .i64 (j:Nat))]) (fun j=>[.cel 11 131 [.int .i64 (agAt t ((k+1:Nat):Int)).1,.int .i64 (agAt t ((k+1:Nat):Int)).2.1,.int .i64 (agAt t ((k+1:Nat):Int)).2.2.1,.sl 43,.sl 21001],.cel 10000 66 [.sl 21000,.sl 10002,.int .i64 pk],.row 21000 131 5 uAgent (xs++gD lv ((xs.length:Nat)-1:Int) t k) us,.row 10002 2 1 (.int .i64) tr [],.row 43 2 1 (.int .i64) (agAt t ((k+1:Nat):Int)).2.2.2.1 [],.row 21001 102 2 uPort (bM ((xs.length:Nat)-1:Int) (agAt t ((k+1:Nat):Int)).2.2.2.2 j) []]) (fun j=>(agAt t ((k+1:Nat):Int)).2.2.2.2.length-j) (fun j=>j≤(agAt t ((k+1:Nat):Int)).2.2.2.2.length) 0 (Nat.zero_le _) ?_ ?_
   ·exact hd [(21000,20000),(21001,1000043)] rfl (aI (aI rfl rfl) trivial) ⟨trivial,⟨⟨rfl,rfl⟩,⟨rfl,rfl⟩,⟨rfl,rfl⟩,rfl,rfl,trivial⟩,trivial,⟨rfl,rfl,⟨rfl,rfl⟩,trivial⟩,⟨rfl,pR _⟩,⟨rfl,nP⟩,⟨rfl,nP⟩,⟨rfl,nP⟩,trivial⟩
   intro j hj;refine aI (fun q3=> ?_) (fun q3=> ?_)
   ·have hlt2:j<(agAt t ((k+1:Nat):Int)).2.2.2.2.length:=by
     have q4:decide (((j:Nat):Int)<((bM ((xs.length:Nat)-1:Int) (agAt t ((k+1:Nat):Int)).2.2.2.2 j).length:Nat))=true:=q3;rw[fD]at q4;simpa using q4
    have hpv:oN (elt (dflt uPort) (agAt t ((k+1:Nat):Int)).2.2.2.2 (j:Nat)).1:=hpt (k+1) j;unfold oN at hpv;have hps:(agAt t ((k+1:Nat):Int)).2.2.2.2.length≤1048576:=(hs.2 (k+1)).2;have hat:elt (dflt uPort) (bM ((xs.length:Nat)-1:Int) (agAt t ((k+1:Nat):Int)).2.2.2.2 j) (j:Nat)=elt (dflt uPort) (agAt t ((k+1:Nat):Int)).2.2.2.2 (j:Nat):=pJ hlt2;have hw:IntKind.i64.wrap ((elt (dflt uPort) (agAt t ((k+1:Nat):Int)).2.2.2.2 (j:Nat)).1+((xs.length:Nat)-1:Int))=(elt (dflt uPort) (agAt t ((k+1:Nat):Int)).2.2.2.2 (j:Nat)).1+((xs.length:Nat)-1:Int):=IntWalk.i64_in _ (by omega)
    have hbnd:0≤((j:Nat):Int)∧((j:Nat):Int)<((bM ((xs.length:Nat)-1:Int) (agAt t ((k+1:Nat):Int)).2.2.2.2 j).length:Nat):=by rw[fD];omega
    refine aI hbnd ?_;refine aI hbnd ?_;refine lp_next (j+1) hlt2 ?_ ?_
    ·refine hd [] rfl (aI (aI (wrapS (by omega)) rfl) trivial) ⟨trivial,⟨⟨rfl,rfl⟩,⟨rfl,rfl⟩,⟨rfl,rfl⟩,rfl,rfl,trivial⟩,trivial,⟨rfl,rfl,⟨rfl,rfl⟩,trivial⟩,⟨rfl,pR _⟩,⟨rfl,nP⟩,⟨rfl,nP⟩,⟨?_,nP⟩,trivial⟩;show(bM ((xs.length:Nat)-1:Int) (agAt t ((k+1:Nat):Int)).2.2.2.2 j).set j (IntKind.i64.wrap ((elt (dflt uPort) (bM ((xs.length:Nat)-1:Int) (agAt t ((k+1:Nat):Int)).2.2.2.2 j) (j:Nat)).1+((xs.length:Nat)-1:Int)),(elt (dflt uPort) (bM ((xs.length:Nat)-1:Int) (agAt t ((k+1:Nat):Int)).2.2.2.2 j) (j:Nat)).2)=bM ((xs.length:Nat)-1:Int) (agAt t ((k+1:Nat):Int)).2.2.2.2 (j+1)
     rw[nL hlt2,hat,hw]
    ·show(agAt t ((k+1:Nat):Int)).2.2.2.2.length-(j+1)<(agAt t ((k+1:Nat):Int)).2.2.2.2.length-j;omega
   have hje:j=(agAt t ((k+1:Nat):Int)).2.2.2.2.length:=by
    have q4:decide (((j:Nat):Int)<((bM ((xs.length:Nat)-1:Int) (agAt t ((k+1:Nat):Int)).2.2.2.2 j).length:Nat))=false:=q3;rw[fD]at q4;have q5:(agAt t ((k+1:Nat):Int)).2.2.2.2.length≤j:=by simpa using q4
    omega
   refine aI (by show(xs++gD lv ((xs.length:Nat)-1:Int) t k).length+1≤_;rw[List.length_append,vF (by omega)];have:=hs.1;omega) ?_;refine aI (by kernel_rfl) ?_;refine lp_next (k+1) (by show k+1+1≤t.length;omega) ?_ ?_
   ·refine hd [(20000,76)] rfl (aI (aI (wrapS (by have:=hs.1;omega)) rfl) (aI (aI rfl rfl) (aI (aI rfl rfl) trivial))) ⟨trivial,⟨rfl,rfl,⟨rfl,rfl⟩,trivial⟩,⟨?_,pR _⟩,⟨rfl,nP⟩,trivial⟩;show(xs++gD lv ((xs.length:Nat)-1:Int) t k)++[((agAt t ((k+1:Nat):Int)).1,(agAt t ((k+1:Nat):Int)).2.1,(agAt t ((k+1:Nat):Int)).2.2.1,(agAt t ((k+1:Nat):Int)).2.2.2.1,bM ((xs.length:Nat)-1:Int) (agAt t ((k+1:Nat):Int)).2.2.2.2 j)]=(xs++gD lv ((xs.length:Nat)-1:Int) t (k+1));rw[sG hlt,hje,pI,List.append_assoc]
    congr 2
    unfold bg fH;rw[show aU (agAt t ((k+1:Nat):Int)).kind=false from hlev];rfl
   ·show t.length-1-(k+1)<t.length-1-k;omega
 ·have hke:k=t.length-1:=by
   have q2:decide (((k+1:Nat):Int)<(t.length:Nat))=false:=q1;have q3:(t.length:Nat)≤((k+1:Nat):Int):=by simpa using q2
   omega
  subst hke;refine aI (show(0:Int)≤0∧(0:Int)<(t.length:Nat) by omega) ?_;refine aI (show(0:Int)≤0∧(0:Int)<((agAt t 0).2.2.2.2.length:Nat) by omega) ?_;have hp0:oN (peerN t (0,0)).1:=hpt 0 0;unfold oN at hp0;have hw:IntKind.i64.wrap (((xs.length:Nat)-1:Int)+(peerN t (0,0)).1)=((xs.length:Nat)-1:Int)+(peerN t (0,0)).1:=IntWalk.i64_in _ (by omega);have hlk:=BK (xs++gD lv ((xs.length:Nat)-1:Int) t (t.length-1)) us pk tr (((xs.length:Nat)-1:Int)+(peerN t (0,0)).1,(peerN t (0,0)).2) (y,0) htop hy.app;rw[←hw]at hlk
  refine Or.inl (eI _ (aI (portS _ _) ?_));refine Or.inl (eI _ (aI (portS y 0) ?_));refine Or.inr (eI _ (eI _ (aI hlk ?_)));refine fin [(10003,20000)] (aI rfl ?_);refine⟨trivial,⟨rfl,rfl,⟨rfl,rfl⟩,trivial⟩,⟨?_,pR _⟩,⟨rfl,nP⟩,trivial⟩;show aR (xs++gD lv ((xs.length:Nat)-1:Int) t (t.length-1)) (IntKind.i64.wrap (((xs.length:Nat)-1:Int)+(peerN t (0,0)).1),(peerN t (0,0)).2) (y,0)=bZ t lv xs y;rw[hw];rfl
theorem sP:callOk Tryz.prog 137=true:=by kernel_rfl
theorem E5(bk:List (List NAgent))(xs:List NAgent)(a b:Int)(ha:0≤a∧a<(xs.length:Nat))(hb:0≤b∧b<(xs.length:Nat))(hs:∀i:Nat,NetSmall (aS bk i))(hv:aQ (agAt xs (aj xs a b).1) (agAt xs (aj xs a b).2)=7→0≤(agAt xs (aj xs a b).1).2.2.1):
  QCall Tryz.prog 137 [.rsl uNet bk,.rp uNet xs,.int .i64 a,.int .i64 b] (.tup [.int .i64 (dR bk (agAt xs (aj xs a b).1) (agAt xs (aj xs a b).2)).1,.int .i64 (dR bk (agAt xs (aj xs a b).1) (agAt xs (aj xs a b).2)).2]):=by
 obtain⟨h1,h2⟩:=fu (xs:=xs) ha hb;refine QCall.intro (nt:=92) ti_ok mixed sP Tryz.func137 rfl rfl rfl rfl rfl ?_;refine Or.inl (eI _ (aI (nD xs a b ha hb) ?_));refine aI h1 ?_;refine aI h2 ?_;refine Or.inl (eI _ (aI (Lm (agAt xs (aj xs a b).1) (agAt xs (aj xs a b).2)) ?_));refine aI (fun q1=> ?_) (fun q1=> ?_)
 ·have e:dR bk (agAt xs (aj xs a b).1) (agAt xs (aj xs a b).2)=(0,11):=by have b:((aQ (agAt xs (aj xs a b).1) (agAt xs (aj xs a b).2))==8)=true:=q1;simp only[dR,b,cond_true]
  rw[e];exact rfl
 have b8:((aQ (agAt xs (aj xs a b).1) (agAt xs (aj xs a b).2))==8)=false:=q1;have fin0:∀z:Int,((aQ (agAt xs (aj xs a b).1) (agAt xs (aj xs a b).2))==7)=false→nR bk (aQ (agAt xs (aj xs a b).1) (agAt xs (aj xs a b).2)) (agAt xs (aj xs a b).1) (agAt xs (aj xs a b).2)=z→dR bk (agAt xs (aj xs a b).1) (agAt xs (aj xs a b).2)=((bI (aQ (agAt xs (aj xs a b).1) (agAt xs (aj xs a b).2)) z).1,0):=fun z h e=>by simp only[dR,b8,h,cond_false,e]
 refine aI (fun q2=> ?_) (fun q2=> ?_)
 ·refine aI (fun _=> ?_) (fun h=>by rw[show((aQ (agAt xs (aj xs a b).1) (agAt xs (aj xs a b).2))==3)=true from q2]at h;cases h);refine Or.inl (eI _ (aI (vJ _ _) ?_));have b3:((aQ (agAt xs (aj xs a b).1) (agAt xs (aj xs a b).2))==3)=true:=q2;have c3:(aQ (agAt xs (aj xs a b).1) (agAt xs (aj xs a b).2))=3:=by simpa using b3
  have e:=fin0 (IntKind.i64.wrap (((agAt xs (aj xs a b).2).2.2.2.2.length:Nat)-1)) (by rw[c3];rfl) (by simp only[nR,b3,cond_true]);rw[e];exact rfl
 have b3:((aQ (agAt xs (aj xs a b).1) (agAt xs (aj xs a b).2))==3)=false:=q2;refine aI (fun q3=> ?_) (fun q3=> ?_)
 ·refine Or.inl (eI _ (aI (vJ _ _) ?_));have b4:((aQ (agAt xs (aj xs a b).1) (agAt xs (aj xs a b).2))==4)=true:=q3;have c4:(aQ (agAt xs (aj xs a b).1) (agAt xs (aj xs a b).2))=4:=by simpa using b4
  have e:=fin0 (IntKind.i64.wrap (((agAt xs (aj xs a b).2).2.2.2.2.length:Nat)-1)) (by rw[c4];rfl) (by simp only[nR,b3,b4,cond_true,cond_false]);rw[e];exact rfl
 have b4:((aQ (agAt xs (aj xs a b).1) (agAt xs (aj xs a b).2))==4)=false:=q3;refine aI (fun q4=> ?_) (fun q4=> ?_)
 ·refine Or.inl (eI _ (aI (I9 _) ?_));refine Or.inl (eI _ (aI (vJ _ _) ?_));have b6:((aQ (agAt xs (aj xs a b).1) (agAt xs (aj xs a b).2))==6)=true:=q4;have c6:(aQ (agAt xs (aj xs a b).1) (agAt xs (aj xs a b).2))=6:=by simpa using b6
  have e:=fin0 (jW (agAt xs (aj xs a b).1)) (by rw[c6];rfl) (by simp only[nR,b3,b4,b6,cond_true,cond_false]);rw[e];exact rfl
 have b6:((aQ (agAt xs (aj xs a b).1) (agAt xs (aj xs a b).2))==6)=false:=q4;refine aI (fun q5=> ?_) (fun q5=> ?_)
 ·have b7:((aQ (agAt xs (aj xs a b).1) (agAt xs (aj xs a b).2))==7)=true:=q5;have c7:(aQ (agAt xs (aj xs a b).1) (agAt xs (aj xs a b).2))=7:=by simpa using b7
  have v0:=hv c7;have ek:aS bk (agAt xs (aj xs a b).1).2.2.1=aS bk ((agAt xs (aj xs a b).1).2.2.1.toNat:Nat):=by unfold aS;exact IY (by omega)
  have hsm:(aS bk (agAt xs (aj xs a b).1).2.2.1).length≤2000000:=by rw[ek];have:=(hs (agAt xs (aj xs a b).1).2.2.1.toNat).1;omega
  refine aI (fun q6=> ?_) (fun q6=> ?_)
  ·have q7:decide ((bk.length:Int)≤(agAt xs (aj xs a b).1).2.2.1)=true:=q6;have e:dR bk (agAt xs (aj xs a b).1) (agAt xs (aj xs a b).2)=(0,3):=by simp only[dR,b8,b7,q7,cond_true,cond_false]
   rw[e];exact rfl
  have q7:decide ((bk.length:Int)≤(agAt xs (aj xs a b).1).2.2.1)=false:=q6;have hlt:(agAt xs (aj xs a b).1).2.2.1<(bk.length:Nat):=by simpa using q7
  refine aI ⟨v0,hlt⟩ ?_;refine aI ⟨v0,hlt⟩ ?_;refine Or.inl (eI _ (aI (SL (aS bk (agAt xs (aj xs a b).1).2.2.1) hsm) ?_));refine aI (by kernel_rfl) ?_;refine aI (fun q8=> ?_) (fun q8=> ?_)
  ·have q9:decide (8<IntKind.i64.wrap (jv (aS bk (agAt xs (aj xs a b).1).2.2.1) (aS bk (agAt xs (aj xs a b).1).2.2.1).length+(agAt xs (aj xs a b).1).2.1))=true:=q8;have e:dR bk (agAt xs (aj xs a b).1) (agAt xs (aj xs a b).2)=(0,9):=by simp only[dR,b8,b7,q7,q9,cond_true,cond_false]
   rw[e];exact rfl
  have q9:decide (8<IntKind.i64.wrap (jv (aS bk (agAt xs (aj xs a b).1).2.2.1) (aS bk (agAt xs (aj xs a b).1).2.2.1).length+(agAt xs (aj xs a b).1).2.1))=false:=q8;refine Or.inl (eI _ (aI (vJ _ _) ?_))
  have e:dR bk (agAt xs (aj xs a b).1) (agAt xs (aj xs a b).2)=((bI 7 ((aS bk (agAt xs (aj xs a b).1).2.2.1).length:Nat)).1,0):=by
   have e7:nR bk 7 (agAt xs (aj xs a b).1) (agAt xs (aj xs a b).2)=((aS bk (agAt xs (aj xs a b).1).2.2.1).length:Nat):=rfl;simp only[dR,b8,b7,q7,q9,cond_true,cond_false,e7]
  rw[e,←c7];exact rfl
 have b7:((aQ (agAt xs (aj xs a b).1) (agAt xs (aj xs a b).2))==7)=false:=q5;refine Or.inl (eI _ (aI (vJ _ _) ?_));have e:=fin0 0 b7 (by simp only[nR,b3,b4,b6,b7,cond_false]);rw[e];exact rfl
theorem G6:callOk Tryz.prog 90=true:=by kernel_rfl
section
variable (bk:List (List NAgent))(xs:List NAgent)(us:List Value)(a b:Int)(ha:0≤a∧a<(xs.length:Nat))(hb:0≤b∧b<(xs.length:Nat))(hs:∀i:Nat,NetSmall (aS bk i))(hlx:xs.length≤800000)(hv:aQ (agAt xs (aj xs a b).1) (agAt xs (aj xs a b).2)=7→0≤(agAt xs (aj xs a b).1).2.2.1)
include ha hb hs hlx hv
theorem TV{g:Int}(hge:dR bk (agAt xs (aj xs a b).1) (agAt xs (aj xs a b).2)=(g,0))(hf:600<IntKind.i64.wrap ((aT xs xs.length:Nat)+g)):FCall Tryz.prog 90 [.rsl uNet bk,.ptr 10000 0,.int .i64 a,.int .i64 b] (tA xs us) (.int .i64 4) (tA xs us):=by
 have hg:=E5 bk xs a b ha hb hs hv;rw[hge]at hg;refine FCall.intro (nt:=134) ti_ok mixed G6 Tryz.func90 rfl rfl rfl rfl rfl rfl ?_;refine Or.inr (eI _ (eI _ (aI (FCall.of_q ti_ok [0,61,0,0] sP hg rfl) ?_)));refine aI (fun q1=>by cases q1) (fun q1=> ?_);refine Or.inr (eI _ (eI _ (aI (FCall.of_q ti_ok [61] gZ (kU xs (by omega)) rfl) ?_)));refine aI (fun q2=> ?_) (fun q2=> ?_)
 ·refine fin [] (aI ⟨rfl,rfl⟩ ?_);exact⟨trivial,⟨rfl,trivial⟩,⟨rfl,pR _⟩,trivial⟩
 ·have q3:decide (600<IntKind.i64.wrap ((aT xs xs.length:Nat)+g))=false:=q2;simp only[decide_eq_false_iff_not]at q3;exact absurd hf q3
theorem UM{c x y g:Int}(hf:aj xs a b=(x,y))(hc:aQ (agAt xs x) (agAt xs y)=c)(hge:dR bk (agAt xs x) (agAt xs y)=(g,0))(hc7:1≤c∧c≤7)(hp:Cy xs c x y)(hA:AllIn xs)(h0:PortIn xs (0,0))(h7:c=7→0≤(agAt xs x).2.2.1∧(agAt xs x).2.2.1<(bk.length:Nat))(hn:¬600<IntKind.i64.wrap ((aT xs xs.length:Nat)+g))
  (hE:c=7→∀us,FCall Tryz.prog 144 [.rp uNet (aS bk (agAt xs x).2.2.1),.ptr 10000 0,.int .i64 x,.int .i64 y] (tA xs us) (.tup []) (N8 10002 (bZ (aS bk (agAt xs x).2.2.1) (agAt xs x).2.1 xs y) us)):
  FCall Tryz.prog 90 [.rsl uNet bk,.ptr 10000 0,.int .i64 a,.int .i64 b] (tA xs us) (.int .i64 0) (N8 10002 (dF bk xs c x y) []):=by
 have hg:=E5 bk xs a b ha hb hs hv;have hfst:=nD xs a b ha hb;rw[hf]at hg hfst;rw[show(x,y).1=x from rfl,show(x,y).2=y from rfl,hge]at hg;rw[show(x,y).1=x from rfl,show(x,y).2=y from rfl]at hfst;obtain⟨⟨hx0,hy0,p12,p3,px,py,dy,p5,p6⟩,k5,k6⟩:=hp;refine FCall.gH 10001 G6 ?_;refine aI (fun _ us' hpre hlen=> ?_) (fun h=>absurd rfl h)
 skip
 refine FCall.intro (nt:=134) ti_ok mixed G6 Tryz.func90 rfl rfl rfl rfl rfl rfl ?_;refine Or.inr (eI _ (eI _ (aI (FCall.of_q ti_ok [0,61,0,0] sP hg rfl) ?_)));refine aI (fun q1=>by cases q1) (fun q1=> ?_);refine Or.inr (eI _ (eI _ (aI (FCall.of_q ti_ok [61] gZ (kU xs (by omega)) rfl) ?_)));refine aI (fun q2=> ?_) (fun q2=> ?_)
 ·have q3:decide (600<IntKind.i64.wrap ((aT xs xs.length:Nat)+g))=true:=q2;simp only[decide_eq_true_eq]at q3;exact absurd q3 hn
 refine Or.inr (eI _ (eI _ (aI (FCall.of_q ti_ok [61,0,0] iO hfst rfl) ?_)));refine aI hx0 ?_;refine aI hy0 ?_;have hce:=lq xs us' x y;rw[hc]at hce;refine Or.inr (eI _ (eI _ (aI hce ?_)));refine aI (by kernel_rfl) ?_;refine aI (fun b1=> ?_) (fun b1=> ?_)
 ·have c1:c=1:=by have b:(c==1)=true:=b1;simpa using b
  have n7:(c==7)=false:=by rw[c1];rfl
  refine aI (fun _=> ?_) (fun h=>by rw[show(c==1)=true from b1]at h;cases h);obtain⟨j1,j2,j3,j4⟩:=p12 (.inl c1);refine Or.inl (eI _ (aI (portS _ _) ?_));refine Or.inl (eI _ (aI (portS _ _) ?_));refine Or.inr (eI _ (eI _ (aI (Ji xs us' (x,1) (y,1) j1 j3 (hA _ j1) (hA _ j3)) ?_)));have hA1:=hA.join j1 j3;refine Or.inl (eI _ (aI (portS _ _) ?_));refine Or.inl (eI _ (aI (portS _ _) ?_));refine Or.inr (eI _ (eI _ (aI (Ji (aB xs (x,1) (y,1)) us' (x,2) (y,2) j2.join j4.join (hA1 _ j2.join) (hA1 _ j4.join)) ?_)));have hll:xs.length≤(aB (aB xs (x,1) (y,1)) (x,2) (y,2)).length:=by rw[jI,jI];exact Nat.le_refl _
  have hlx2:0≤x∧x<((aB (aB xs (x,1) (y,1)) (x,2) (y,2)).length:Nat):=by omega
  have hly:0≤y∧y<((aB (aB xs (x,1) (y,1)) (x,2) (y,2)).length:Nat):=by omega
  refine Or.inr (eI _ (eI _ (aI (iY (aB (aB xs (x,1) (y,1)) (x,2) (y,2)) us' x hlx2) ?_)));refine aI (fun _=> ?_) (fun q7=>by have q8:(c !=7)=false:=q7;rw[c1]at q8;cases q8);refine Or.inr (eI _ (eI _ (aI (iY (aK (aB (aB xs (x,1) (y,1)) (x,2) (y,2)) x) [] y (by rw[bY];exact hly)) ?_)));refine fin [(10002,10001)] (aI ⟨rfl,rfl⟩ ?_);refine⟨trivial,⟨rfl,trivial⟩,⟨?_,nP⟩,trivial⟩;show aK (aK (aB (aB xs (x,1) (y,1)) (x,2) (y,2)) x) y=dF bk xs c x y;simp only[dF,d9,b1,n7,cond_true,cond_false]
 refine aI (fun b2=> ?_) (fun b2=> ?_)
 ·have c2:c=2:=by have b:(c==2)=true:=b2;simpa using b
  have n7:(c==7)=false:=by rw[c2];rfl
  obtain⟨j1,j2,j3,j4⟩:=p12 (.inr c2);refine Or.inl (eI _ (aI (portS _ _) ?_));refine Or.inl (eI _ (aI (portS _ _) ?_));refine Or.inr (eI _ (eI _ (aI (Ji xs us' (x,1) (y,1) j1 j3 (hA _ j1) (hA _ j3)) ?_)));have hA1:=hA.join j1 j3;refine Or.inl (eI _ (aI (portS _ _) ?_));refine Or.inl (eI _ (aI (portS _ _) ?_));refine Or.inr (eI _ (eI _ (aI (Ji (aB xs (x,1) (y,1)) us' (x,2) (y,2) j2.join j4.join (hA1 _ j2.join) (hA1 _ j4.join)) ?_)));have hll:xs.length≤(aB (aB xs (x,1) (y,1)) (x,2) (y,2)).length:=by rw[jI,jI];exact Nat.le_refl _
  have hlx2:0≤x∧x<((aB (aB xs (x,1) (y,1)) (x,2) (y,2)).length:Nat):=by omega
  have hly:0≤y∧y<((aB (aB xs (x,1) (y,1)) (x,2) (y,2)).length:Nat):=by omega
  refine Or.inr (eI _ (eI _ (aI (iY (aB (aB xs (x,1) (y,1)) (x,2) (y,2)) us' x hlx2) ?_)));refine aI (fun _=> ?_) (fun q7=>by have q8:(c !=7)=false:=q7;rw[c2]at q8;cases q8);refine Or.inr (eI _ (eI _ (aI (iY (aK (aB (aB xs (x,1) (y,1)) (x,2) (y,2)) x) [] y (by rw[bY];exact hly)) ?_)));refine fin [(10002,10001)] (aI ⟨rfl,rfl⟩ ?_);refine⟨trivial,⟨rfl,trivial⟩,⟨?_,nP⟩,trivial⟩;show aK (aK (aB (aB xs (x,1) (y,1)) (x,2) (y,2)) x) y=dF bk xs c x y;simp only[dF,d9,b1,b2,n7,cond_true,cond_false]
 refine aI (fun b3=> ?_) (fun b3=> ?_)
 ·have c3:c=3:=by have b:(c==3)=true:=b3;simpa using b
  have n7:(c==7)=false:=by rw[c3];rfl
  obtain⟨j1,j2⟩:=p3 c3;refine Or.inr (eI _ (eI _ (aI (Um xs us' x y hA h0 (by omega) j1 j2 hy0 py.2 dy py.1) ?_)));have hll:xs.length≤(aO xs x y).length:=by exact tL xs x y
  have hlx2:0≤x∧x<((aO xs x y).length:Nat):=by omega
  have hly:0≤y∧y<((aO xs x y).length:Nat):=by omega
  refine Or.inr (eI _ (eI _ (aI (iY (aO xs x y) us' x hlx2) ?_)));refine aI (fun _=> ?_) (fun q7=>by have q8:(c !=7)=false:=q7;rw[c3]at q8;cases q8);refine Or.inr (eI _ (eI _ (aI (iY (aK (aO xs x y) x) [] y (by rw[bY];exact hly)) ?_)));refine fin [(10002,72)] (aI ⟨rfl,rfl⟩ ?_);refine⟨trivial,⟨rfl,trivial⟩,⟨?_,nP⟩,trivial⟩;show aK (aK (aO xs x y) x) y=dF bk xs c x y;simp only[dF,d9,b1,b2,b3,n7,cond_true,cond_false]
 refine aI (fun b4=> ?_) (fun b4=> ?_)
 ·have c4:c=4:=by have b:(c==4)=true:=b4;simpa using b
  have n7:(c==7)=false:=by rw[c4];rfl
  have hyk:∀i:Nat,i<((agAt xs y).2.2.2.2.length-1)→PortIn xs (y,((i+1:Nat):Int)):=fun i hi=>⟨hy0.1,hy0.2,by omega,by show((i+1:Nat):Int)<((agAt xs y).2.2.2.2.length:Nat);omega⟩
  refine aI hy0 ?_;refine aI (oG hlen hy0.1 hy0.2) ?_;refine lp Nat (fun k=>[(13,.int .i64 ((k+1:Nat):Int)),(12,.int .i64 ((agAt xs y).2.2.2.2.length:Nat))]) (fun k=>[.cel 10000 30 [.sl 20000],.row 20000 131 5 uAgent (nZ y xs k) us']) (fun k=>((agAt xs y).2.2.2.2.length-1)-k) (fun k=>k≤((agAt xs y).2.2.2.2.length-1)) 0 (Nat.zero_le _) ?_ ?_
  ·exact hd [(20000,10001)] rfl (aI (aI rfl rfl) (aI (aI rfl rfl) trivial)) ⟨trivial,⟨rfl,trivial⟩,⟨rfl,pR _⟩,trivial⟩
  intro k hk;refine aI (fun q4=> ?_) (fun q4=> ?_)
  ·have hlt:k<((agAt xs y).2.2.2.2.length-1):=by
    have q5:decide (((k+1:Nat):Int)<((agAt xs y).2.2.2.2.length:Nat))=true:=q4;have q6:((k+1:Nat):Int)<((agAt xs y).2.2.2.2.length:Nat):=by simpa using q5
    omega
   have hadd:=qb (nZ y xs k) us' 5 0 0 1 (by rw[iy];omega) (by omega);rw[iy]at hadd;refine Or.inr (eI _ (eI _ (aI hadd ?_)));refine Or.inl (eI _ (aI (portS _ _) ?_));refine Or.inl (eI _ (aI (portS _ _) ?_));refine Or.inr (eI _ (eI _ (aI (moveA (nZ y xs k++[aJ 5 0 0 [] 1]) us' (y,((k+1:Nat):Int)) (((xs.length+k:Nat):Int),0) ((sF hA h0 k fun i hi=>hyk i (by omega)).add (lu h0 k) _ _ _ _ _) (lu (hyk k hlt) k).app (vD k)) ?_)));refine lp_next (k+1) (by omega) ?_ ?_
   ·exact hd [(20000,90)] rfl (aI (aI (wrapS (by omega)) rfl) (aI (aI rfl rfl) trivial)) ⟨trivial,⟨rfl,trivial⟩,⟨rfl,pR _⟩,trivial⟩
   ·show((agAt xs y).2.2.2.2.length-1)-(k+1)<((agAt xs y).2.2.2.2.length-1)-k;omega
  have hge2:((agAt xs y).2.2.2.2.length-1)≤k:=by
   have q5:decide (((k+1:Nat):Int)<((agAt xs y).2.2.2.2.length:Nat))=false:=q4;have q6:((agAt xs y).2.2.2.2.length:Nat)≤((k+1:Nat):Int):=by simpa using q5
   omega
  have hke:k=((agAt xs y).2.2.2.2.length-1):=by omega
  subst hke;have hll:xs.length≤(dZ xs y).length:=by unfold dZ;rw[iy];omega
  have hlx2:0≤x∧x<((dZ xs y).length:Nat):=by omega
  have hly:0≤y∧y<((dZ xs y).length:Nat):=by omega
  refine Or.inr (eI _ (eI _ (aI (iY (dZ xs y) us' x hlx2) ?_)));refine aI (fun _=> ?_) (fun q7=>by have q8:(c !=7)=false:=q7;rw[c4]at q8;cases q8);refine Or.inr (eI _ (eI _ (aI (iY (aK (dZ xs y) x) [] y (by rw[bY];exact hly)) ?_)));refine fin [(10002,20000)] (aI ⟨rfl,rfl⟩ ?_);refine⟨trivial,⟨rfl,trivial⟩,⟨?_,nP⟩,trivial⟩;show aK (aK (dZ xs y) x) y=dF bk xs c x y;simp only[dF,d9,b1,b2,b3,b4,n7,cond_true,cond_false]
 refine aI (fun b5=> ?_) (fun b5=> ?_)
 ·have c5:c=5:=by have b:(c==5)=true:=b5;simpa using b
  have n7:(c==7)=false:=by rw[c5];rfl
  obtain⟨j1,j2,j3⟩:=p5 c5;refine Or.inr (eI _ (eI _ (aI (Td xs us' x y hA h0 (by omega) hx0 j1 (k5 c5) j2 j3 dy py.2) ?_)));have hll:xs.length≤(aM xs x y).length:=by exact xX xs x y
  have hlx2:0≤x∧x<((aM xs x y).length:Nat):=by omega
  have hly:0≤y∧y<((aM xs x y).length:Nat):=by omega
  refine Or.inr (eI _ (eI _ (aI (iY (aM xs x y) us' x hlx2) ?_)));refine aI (fun _=> ?_) (fun q7=>by have q8:(c !=7)=false:=q7;rw[c5]at q8;cases q8);refine Or.inr (eI _ (eI _ (aI (iY (aK (aM xs x y) x) [] y (by rw[bY];exact hly)) ?_)));refine fin [(10002,103)] (aI ⟨rfl,rfl⟩ ?_);refine⟨trivial,⟨rfl,trivial⟩,⟨?_,nP⟩,trivial⟩;show aK (aK (aM xs x y) x) y=dF bk xs c x y;simp only[dF,d9,b1,b2,b3,b4,b5,n7,cond_true,cond_false]
 refine aI (fun b6=> ?_) (fun b6=> ?_)
 ·have c6:c=6:=by have b:(c==6)=true:=b6;simpa using b
  have n7:(c==7)=false:=by rw[c6];rfl
  obtain⟨j1,j2,j3⟩:=p6 c6;refine Or.inr (eI _ (eI _ (aI (Oo xs us' x y hA h0 (by omega) hx0 j1 (k6 c6).1 (k6 c6).2 px.2 px.1 dy py.2) ?_)));have hll:xs.length≤(bE xs x y).length:=by exact yT xs x y
  have hlx2:0≤x∧x<((bE xs x y).length:Nat):=by omega
  have hly:0≤y∧y<((bE xs x y).length:Nat):=by omega
  refine Or.inr (eI _ (eI _ (aI (iY (bE xs x y) us' x hlx2) ?_)));refine aI (fun _=> ?_) (fun q7=>by have q8:(c !=7)=false:=q7;rw[c6]at q8;cases q8);refine Or.inr (eI _ (eI _ (aI (iY (aK (bE xs x y) x) [] y (by rw[bY];exact hly)) ?_)));refine fin [(10002,109)] (aI ⟨rfl,rfl⟩ ?_);refine⟨trivial,⟨rfl,trivial⟩,⟨?_,nP⟩,trivial⟩;show aK (aK (bE xs x y) x) y=dF bk xs c x y;simp only[dF,d9,b1,b2,b3,b4,b5,b6,n7,cond_true,cond_false]
 refine aI (fun b7=> ?_) (fun b7=> ?_)
 ·have c7:c=7:=by have b:(c==7)=true:=b7;simpa using b
  have n7:(c==7)=true:=b7;refine aI hx0 ?_;refine aI (h7 c7) ?_;refine Or.inr (eI _ (eI _ (aI (hE c7 us') ?_)));have hll:xs.length≤(bZ (aS bk (agAt xs x).2.2.1) (agAt xs x).2.1 xs y).length:=by unfold bZ;rw[fT,List.length_append];omega
  have hlx2:0≤x∧x<((bZ (aS bk (agAt xs x).2.2.1) (agAt xs x).2.1 xs y).length:Nat):=by omega
  have hly:0≤y∧y<((bZ (aS bk (agAt xs x).2.2.1) (agAt xs x).2.1 xs y).length:Nat):=by omega
  refine Or.inr (eI _ (eI _ (aI (iY (bZ (aS bk (agAt xs x).2.2.1) (agAt xs x).2.1 xs y) us' x hlx2) ?_)));refine aI (fun q7=>by have q8:(c !=7)=true:=q7;rw[c7]at q8;cases q8) (fun _=> ?_);refine fin [(10002,125)] (aI ⟨rfl,rfl⟩ ?_);refine⟨trivial,⟨rfl,trivial⟩,⟨?_,nP⟩,trivial⟩;show aK (bZ (aS bk (agAt xs x).2.2.1) (agAt xs x).2.1 xs y) x=dF bk xs c x y;simp only[dF,d9,b1,b2,b3,b4,b5,b6,b7,n7,cond_true,cond_false]
 ·exfalso;simp at b1 b2 b3 b4 b5 b6 b7;omega
end
section
variable (bk:List (List NAgent))(xs:List NAgent)(us:List Value)(pk:Int)(tr:List Int)(a b:Int)(ha:0≤a∧a<(xs.length:Nat))(hb:0≤b∧b<(xs.length:Nat))(hs:∀i:Nat,NetSmall (aS bk i))(hlx:xs.length≤800000)(hv:aQ (agAt xs (aj xs a b).1) (agAt xs (aj xs a b).2)=7→0≤(agAt xs (aj xs a b).1).2.2.1)
include ha hb hs hlx hv
theorem QV{g e:Int}(hge:dR bk (agAt xs (aj xs a b).1) (agAt xs (aj xs a b).2)=(g,e))(he:e≠0):FCall Tryz.prog 90 [.rsl uNet bk,.ptr 10000 0,.int .i64 a,.int .i64 b] (tB xs us pk tr) (.int .i64 e) (tB xs us pk tr):=by
 have hg:=E5 bk xs a b ha hb hs hv;rw[hge]at hg;refine FCall.intro (nt:=134) ti_ok mixed G6 Tryz.func90 rfl rfl rfl rfl rfl rfl ?_;refine Or.inr (eI _ (eI _ (aI (FCall.of_q ti_ok [0,61,0,0] sP hg rfl) ?_)));refine aI (fun q1=> ?_) (fun q1=> ?_)
 ·refine fin [] (aI ⟨rfl,rfl⟩ ?_);exact⟨trivial,⟨rfl,rfl,⟨rfl,rfl⟩,trivial⟩,⟨rfl,pR _⟩,⟨rfl,nP⟩,trivial⟩
 ·have q2:(e !=0)=false:=q1;simp at q2;exact absurd q2 he
theorem Oz{g:Int}(hge:dR bk (agAt xs (aj xs a b).1) (agAt xs (aj xs a b).2)=(g,0))(hf:600<IntKind.i64.wrap ((aT xs xs.length:Nat)+g)):FCall Tryz.prog 90 [.rsl uNet bk,.ptr 10000 0,.int .i64 a,.int .i64 b] (tB xs us pk tr) (.int .i64 4) (tB xs us pk tr):=by
 have hg:=E5 bk xs a b ha hb hs hv;rw[hge]at hg;refine FCall.intro (nt:=134) ti_ok mixed G6 Tryz.func90 rfl rfl rfl rfl rfl rfl ?_;refine Or.inr (eI _ (eI _ (aI (FCall.of_q ti_ok [0,61,0,0] sP hg rfl) ?_)));refine aI (fun q1=>by cases q1) (fun q1=> ?_);refine Or.inr (eI _ (eI _ (aI (FCall.of_q ti_ok [61] gZ (kU xs (by omega)) rfl) ?_)));refine aI (fun q2=> ?_) (fun q2=> ?_)
 ·refine fin [] (aI ⟨rfl,rfl⟩ ?_);exact⟨trivial,⟨rfl,rfl,⟨rfl,rfl⟩,trivial⟩,⟨rfl,pR _⟩,⟨rfl,nP⟩,trivial⟩
 ·have q3:decide (600<IntKind.i64.wrap ((aT xs xs.length:Nat)+g))=false:=q2;simp only[decide_eq_false_iff_not]at q3;exact absurd hf q3
theorem SG{c x y g:Int}(hf:aj xs a b=(x,y))(hc:aQ (agAt xs x) (agAt xs y)=c)(hge:dR bk (agAt xs x) (agAt xs y)=(g,0))(hc7:1≤c∧c≤7)(hp:Cy xs c x y)(hA:AllIn xs)(h0:PortIn xs (0,0))(h7:c=7→0≤(agAt xs x).2.2.1∧(agAt xs x).2.2.1<(bk.length:Nat))(hn:¬600<IntKind.i64.wrap ((aT xs xs.length:Nat)+g))
  (hE:c=7→∀us,FCall Tryz.prog 144 [.rp uNet (aS bk (agAt xs x).2.2.1),.ptr 10000 0,.int .i64 x,.int .i64 y] (tB xs us pk tr) (.tup []) (tBn 10003 (bZ (aS bk (agAt xs x).2.2.1) (agAt xs x).2.1 xs y) us pk tr)):
  FCall Tryz.prog 90 [.rsl uNet bk,.ptr 10000 0,.int .i64 a,.int .i64 b] (tB xs us pk tr) (.int .i64 0) (tBn 10003 (dF bk xs c x y) [] pk tr):=by
 have hg:=E5 bk xs a b ha hb hs hv;have hfst:=nD xs a b ha hb;rw[hf]at hg hfst;rw[show(x,y).1=x from rfl,show(x,y).2=y from rfl,hge]at hg;rw[show(x,y).1=x from rfl,show(x,y).2=y from rfl]at hfst;obtain⟨⟨hx0,hy0,p12,p3,px,py,dy,p5,p6⟩,k5,k6⟩:=hp;refine FCall.gH 10001 G6 ?_;refine aI (fun _ us' hpre hlen=> ?_) (fun h=>absurd rfl h);refine aI (fun h=>absurd h (by decide)) (fun _=> ?_);refine FCall.intro (nt:=134) ti_ok mixed G6 Tryz.func90 rfl rfl rfl rfl rfl rfl ?_;refine Or.inr (eI _ (eI _ (aI (FCall.of_q ti_ok [0,61,0,0] sP hg rfl) ?_)))
 refine aI (fun q1=>by cases q1) (fun q1=> ?_);refine Or.inr (eI _ (eI _ (aI (FCall.of_q ti_ok [61] gZ (kU xs (by omega)) rfl) ?_)));refine aI (fun q2=> ?_) (fun q2=> ?_)
 ·have q3:decide (600<IntKind.i64.wrap ((aT xs xs.length:Nat)+g))=true:=q2;simp only[decide_eq_true_eq]at q3;exact absurd q3 hn
 refine Or.inr (eI _ (eI _ (aI (FCall.of_q ti_ok [61,0,0] iO hfst rfl) ?_)));refine aI hx0 ?_;refine aI hy0 ?_;have hce:=lq xs us' x y;rw[hc]at hce;refine Or.inr (eI _ (eI _ (aI hce ?_)));refine aI (by kernel_rfl) ?_;refine aI (fun b1=> ?_) (fun b1=> ?_)
 ·have c1:c=1:=by have b:(c==1)=true:=b1;simpa using b
  have n7:(c==7)=false:=by rw[c1];rfl
  refine aI (fun _=> ?_) (fun h=>by rw[show(c==1)=true from b1]at h;cases h);obtain⟨j1,j2,j3,j4⟩:=p12 (.inl c1);refine Or.inl (eI _ (aI (portS _ _) ?_));refine Or.inl (eI _ (aI (portS _ _) ?_));refine Or.inr (eI _ (eI _ (aI (Jj xs us' pk tr (x,1) (y,1) j1 j3 (hA _ j1) (hA _ j3)) ?_)));have hA1:=hA.join j1 j3;refine Or.inl (eI _ (aI (portS _ _) ?_));refine Or.inl (eI _ (aI (portS _ _) ?_));refine Or.inr (eI _ (eI _ (aI (Jj (aB xs (x,1) (y,1)) us' pk tr (x,2) (y,2) j2.join j4.join (hA1 _ j2.join) (hA1 _ j4.join)) ?_)));have hll:xs.length≤(aB (aB xs (x,1) (y,1)) (x,2) (y,2)).length:=by rw[jI,jI];exact Nat.le_refl _
  have hlx2:0≤x∧x<((aB (aB xs (x,1) (y,1)) (x,2) (y,2)).length:Nat):=by omega
  have hly:0≤y∧y<((aB (aB xs (x,1) (y,1)) (x,2) (y,2)).length:Nat):=by omega
  refine Or.inr (eI _ (eI _ (aI (iZ (aB (aB xs (x,1) (y,1)) (x,2) (y,2)) us' pk tr x hlx2) ?_)));refine aI (fun _=> ?_) (fun q7=>by have q8:(c !=7)=false:=q7;rw[c1]at q8;cases q8);refine Or.inr (eI _ (eI _ (aI (iZ (aK (aB (aB xs (x,1) (y,1)) (x,2) (y,2)) x) [] pk tr y (by rw[bY];exact hly)) ?_)));refine fin [(10003,10001)] (aI ⟨rfl,rfl⟩ ?_);refine⟨trivial,⟨rfl,rfl,⟨rfl,rfl⟩,trivial⟩,⟨?_,nP⟩,⟨rfl,nP⟩,trivial⟩;show aK (aK (aB (aB xs (x,1) (y,1)) (x,2) (y,2)) x) y=dF bk xs c x y;simp only[dF,d9,b1,n7,cond_true,cond_false]
 refine aI (fun b2=> ?_) (fun b2=> ?_)
 ·have c2:c=2:=by have b:(c==2)=true:=b2;simpa using b
  have n7:(c==7)=false:=by rw[c2];rfl
  obtain⟨j1,j2,j3,j4⟩:=p12 (.inr c2);refine Or.inl (eI _ (aI (portS _ _) ?_));refine Or.inl (eI _ (aI (portS _ _) ?_));refine Or.inr (eI _ (eI _ (aI (Jj xs us' pk tr (x,1) (y,1) j1 j3 (hA _ j1) (hA _ j3)) ?_)));have hA1:=hA.join j1 j3;refine Or.inl (eI _ (aI (portS _ _) ?_));refine Or.inl (eI _ (aI (portS _ _) ?_));refine Or.inr (eI _ (eI _ (aI (Jj (aB xs (x,1) (y,1)) us' pk tr (x,2) (y,2) j2.join j4.join (hA1 _ j2.join) (hA1 _ j4.join)) ?_)));have hll:xs.length≤(aB (aB xs (x,1) (y,1)) (x,2) (y,2)).length:=by rw[jI,jI];exact Nat.le_refl _
  have hlx2:0≤x∧x<((aB (aB xs (x,1) (y,1)) (x,2) (y,2)).length:Nat):=by omega
  have hly:0≤y∧y<((aB (aB xs (x,1) (y,1)) (x,2) (y,2)).length:Nat):=by omega
  refine Or.inr (eI _ (eI _ (aI (iZ (aB (aB xs (x,1) (y,1)) (x,2) (y,2)) us' pk tr x hlx2) ?_)));refine aI (fun _=> ?_) (fun q7=>by have q8:(c !=7)=false:=q7;rw[c2]at q8;cases q8);refine Or.inr (eI _ (eI _ (aI (iZ (aK (aB (aB xs (x,1) (y,1)) (x,2) (y,2)) x) [] pk tr y (by rw[bY];exact hly)) ?_)));refine fin [(10003,10001)] (aI ⟨rfl,rfl⟩ ?_);refine⟨trivial,⟨rfl,rfl,⟨rfl,rfl⟩,trivial⟩,⟨?_,nP⟩,⟨rfl,nP⟩,trivial⟩;show aK (aK (aB (aB xs (x,1) (y,1)) (x,2) (y,2)) x) y=dF bk xs c x y;simp only[dF,d9,b1,b2,n7,cond_true,cond_false]
 refine aI (fun b3=> ?_) (fun b3=> ?_)
 ·have c3:c=3:=by have b:(c==3)=true:=b3;simpa using b
  have n7:(c==7)=false:=by rw[c3];rfl
  obtain⟨j1,j2⟩:=p3 c3;refine Or.inr (eI _ (eI _ (aI (SH xs us' pk tr x y hA h0 (by omega) j1 j2 hy0 py.2 dy py.1) ?_)));have hll:xs.length≤(aO xs x y).length:=by exact tL xs x y
  have hlx2:0≤x∧x<((aO xs x y).length:Nat):=by omega
  have hly:0≤y∧y<((aO xs x y).length:Nat):=by omega
  refine Or.inr (eI _ (eI _ (aI (iZ (aO xs x y) us' pk tr x hlx2) ?_)));refine aI (fun _=> ?_) (fun q7=>by have q8:(c !=7)=false:=q7;rw[c3]at q8;cases q8);refine Or.inr (eI _ (eI _ (aI (iZ (aK (aO xs x y) x) [] pk tr y (by rw[bY];exact hly)) ?_)));refine fin [(10003,72)] (aI ⟨rfl,rfl⟩ ?_);refine⟨trivial,⟨rfl,rfl,⟨rfl,rfl⟩,trivial⟩,⟨?_,nP⟩,⟨rfl,nP⟩,trivial⟩;show aK (aK (aO xs x y) x) y=dF bk xs c x y;simp only[dF,d9,b1,b2,b3,n7,cond_true,cond_false]
 refine aI (fun b4=> ?_) (fun b4=> ?_)
 ·have c4:c=4:=by have b:(c==4)=true:=b4;simpa using b
  have n7:(c==7)=false:=by rw[c4];rfl
  have hyk:∀i:Nat,i<((agAt xs y).2.2.2.2.length-1)→PortIn xs (y,((i+1:Nat):Int)):=fun i hi=>⟨hy0.1,hy0.2,by omega,by show((i+1:Nat):Int)<((agAt xs y).2.2.2.2.length:Nat);omega⟩
  refine aI hy0 ?_;refine aI (oG hlen hy0.1 hy0.2) ?_;refine lp Nat (fun k=>[(13,.int .i64 ((k+1:Nat):Int)),(12,.int .i64 ((agAt xs y).2.2.2.2.length:Nat))]) (fun k=>[.cel 10000 66 [.sl 20000,.sl 10002,.int .i64 pk],.row 20000 131 5 uAgent (nZ y xs k) us',.row 10002 2 1 (.int .i64) tr []]) (fun k=>((agAt xs y).2.2.2.2.length-1)-k) (fun k=>k≤((agAt xs y).2.2.2.2.length-1)) 0 (Nat.zero_le _) ?_ ?_
  ·exact hd [(20000,10001)] rfl (aI (aI rfl rfl) (aI (aI rfl rfl) trivial)) ⟨trivial,⟨rfl,rfl,⟨rfl,rfl⟩,trivial⟩,⟨rfl,pR _⟩,⟨rfl,nP⟩,trivial⟩
  intro k hk;refine aI (fun q4=> ?_) (fun q4=> ?_)
  ·have hlt:k<((agAt xs y).2.2.2.2.length-1):=by
    have q5:decide (((k+1:Nat):Int)<((agAt xs y).2.2.2.2.length:Nat))=true:=q4;have q6:((k+1:Nat):Int)<((agAt xs y).2.2.2.2.length:Nat):=by simpa using q5
    omega
   have hadd:=qg (nZ y xs k) us' pk tr 5 0 0 1 (by rw[iy];omega) (by omega);rw[iy]at hadd;refine Or.inr (eI _ (eI _ (aI hadd ?_)));refine Or.inl (eI _ (aI (portS _ _) ?_));refine Or.inl (eI _ (aI (portS _ _) ?_));refine Or.inr (eI _ (eI _ (aI (moveB (nZ y xs k++[aJ 5 0 0 [] 1]) us' pk tr (y,((k+1:Nat):Int)) (((xs.length+k:Nat):Int),0) ((sF hA h0 k fun i hi=>hyk i (by omega)).add (lu h0 k) _ _ _ _ _) (lu (hyk k hlt) k).app (vD k)) ?_)));refine lp_next (k+1) (by omega) ?_ ?_
   ·exact hd [(20000,90)] rfl (aI (aI (wrapS (by omega)) rfl) (aI (aI rfl rfl) trivial)) ⟨trivial,⟨rfl,rfl,⟨rfl,rfl⟩,trivial⟩,⟨rfl,pR _⟩,⟨rfl,nP⟩,trivial⟩
   ·show((agAt xs y).2.2.2.2.length-1)-(k+1)<((agAt xs y).2.2.2.2.length-1)-k;omega
  have hge2:((agAt xs y).2.2.2.2.length-1)≤k:=by
   have q5:decide (((k+1:Nat):Int)<((agAt xs y).2.2.2.2.length:Nat))=false:=q4;have q6:((agAt xs y).2.2.2.2.length:Nat)≤((k+1:Nat):Int):=by simpa using q5
   omega
  have hke:k=((agAt xs y).2.2.2.2.length-1):=by omega
  subst hke;have hll:xs.length≤(dZ xs y).length:=by unfold dZ;rw[iy];omega
  have hlx2:0≤x∧x<((dZ xs y).length:Nat):=by omega
  have hly:0≤y∧y<((dZ xs y).length:Nat):=by omega
  refine Or.inr (eI _ (eI _ (aI (iZ (dZ xs y) us' pk tr x hlx2) ?_)));refine aI (fun _=> ?_) (fun q7=>by have q8:(c !=7)=false:=q7;rw[c4]at q8;cases q8);refine Or.inr (eI _ (eI _ (aI (iZ (aK (dZ xs y) x) [] pk tr y (by rw[bY];exact hly)) ?_)));refine fin [(10003,20000)] (aI ⟨rfl,rfl⟩ ?_);refine⟨trivial,⟨rfl,rfl,⟨rfl,rfl⟩,trivial⟩,⟨?_,nP⟩,⟨rfl,nP⟩,trivial⟩;show aK (aK (dZ xs y) x) y=dF bk xs c x y;simp only[dF,d9,b1,b2,b3,b4,n7,cond_true,cond_false]
 refine aI (fun b5=> ?_) (fun b5=> ?_)
 ·have c5:c=5:=by have b:(c==5)=true:=b5;simpa using b
  have n7:(c==7)=false:=by rw[c5];rfl
  obtain⟨j1,j2,j3⟩:=p5 c5;refine Or.inr (eI _ (eI _ (aI (iB xs us' pk tr x y hA h0 (by omega) hx0 j1 (k5 c5) j2 j3 dy py.2) ?_)));have hll:xs.length≤(aM xs x y).length:=by exact xX xs x y
  have hlx2:0≤x∧x<((aM xs x y).length:Nat):=by omega
  have hly:0≤y∧y<((aM xs x y).length:Nat):=by omega
  refine Or.inr (eI _ (eI _ (aI (iZ (aM xs x y) us' pk tr x hlx2) ?_)));refine aI (fun _=> ?_) (fun q7=>by have q8:(c !=7)=false:=q7;rw[c5]at q8;cases q8);refine Or.inr (eI _ (eI _ (aI (iZ (aK (aM xs x y) x) [] pk tr y (by rw[bY];exact hly)) ?_)));refine fin [(10003,103)] (aI ⟨rfl,rfl⟩ ?_);refine⟨trivial,⟨rfl,rfl,⟨rfl,rfl⟩,trivial⟩,⟨?_,nP⟩,⟨rfl,nP⟩,trivial⟩;show aK (aK (aM xs x y) x) y=dF bk xs c x y;simp only[dF,d9,b1,b2,b3,b4,b5,n7,cond_true,cond_false]
 refine aI (fun b6=> ?_) (fun b6=> ?_)
 ·have c6:c=6:=by have b:(c==6)=true:=b6;simpa using b
  have n7:(c==7)=false:=by rw[c6];rfl
  obtain⟨j1,j2,j3⟩:=p6 c6;refine Or.inr (eI _ (eI _ (aI (Oq xs us' pk tr x y hA h0 (by omega) hx0 j1 (k6 c6).1 (k6 c6).2 px.2 px.1 dy py.2) ?_)));have hll:xs.length≤(bE xs x y).length:=by exact yT xs x y
  have hlx2:0≤x∧x<((bE xs x y).length:Nat):=by omega
  have hly:0≤y∧y<((bE xs x y).length:Nat):=by omega
  refine Or.inr (eI _ (eI _ (aI (iZ (bE xs x y) us' pk tr x hlx2) ?_)));refine aI (fun _=> ?_) (fun q7=>by have q8:(c !=7)=false:=q7;rw[c6]at q8;cases q8);refine Or.inr (eI _ (eI _ (aI (iZ (aK (bE xs x y) x) [] pk tr y (by rw[bY];exact hly)) ?_)));refine fin [(10003,109)] (aI ⟨rfl,rfl⟩ ?_);refine⟨trivial,⟨rfl,rfl,⟨rfl,rfl⟩,trivial⟩,⟨?_,nP⟩,⟨rfl,nP⟩,trivial⟩;show aK (aK (bE xs x y) x) y=dF bk xs c x y;simp only[dF,d9,b1,b2,b3,b4,b5,b6,n7,cond_true,cond_false]
 refine aI (fun b7=> ?_) (fun b7=> ?_)
 ·have c7:c=7:=by have b:(c==7)=true:=b7;simpa using b
  have n7:(c==7)=true:=b7;refine aI hx0 ?_;refine aI (h7 c7) ?_;refine Or.inr (eI _ (eI _ (aI (hE c7 us') ?_)));have hll:xs.length≤(bZ (aS bk (agAt xs x).2.2.1) (agAt xs x).2.1 xs y).length:=by unfold bZ;rw[fT,List.length_append];omega
  have hlx2:0≤x∧x<((bZ (aS bk (agAt xs x).2.2.1) (agAt xs x).2.1 xs y).length:Nat):=by omega
  have hly:0≤y∧y<((bZ (aS bk (agAt xs x).2.2.1) (agAt xs x).2.1 xs y).length:Nat):=by omega
  refine Or.inr (eI _ (eI _ (aI (iZ (bZ (aS bk (agAt xs x).2.2.1) (agAt xs x).2.1 xs y) us' pk tr x hlx2) ?_)));refine aI (fun q7=>by have q8:(c !=7)=true:=q7;rw[c7]at q8;cases q8) (fun _=> ?_);refine fin [(10003,125)] (aI ⟨rfl,rfl⟩ ?_);refine⟨trivial,⟨rfl,rfl,⟨rfl,rfl⟩,trivial⟩,⟨?_,nP⟩,⟨rfl,nP⟩,trivial⟩;show aK (bZ (aS bk (agAt xs x).2.2.1) (agAt xs x).2.1 xs y) x=dF bk xs c x y;simp only[dF,d9,b1,b2,b3,b4,b5,b6,b7,n7,cond_true,cond_false]
 ·exfalso;simp at b1 b2 b3 b4 b5 b6 b7;omega
end
end Go.Proofs.YtjijpkphkicoeaaGreat
namespace Go.Proofs.YtjijpkphkicoeaaGreat
open Go Go.RowKit Go.Proofs Go.Tr
def ND(xs:List NAgent)(k:Int):Bool:=bif inB k 0 ((xs.length:Int)-1)then(agAt xs k).1 !=0 else false
def Oh(xs:List NAgent)(a b:Int):Bool:=
 bif (bif decide (0<a)then decide (a<b)else false)then dO [(elt (dflt uPort) (agAt xs a).2.2.2.2 0).1,(elt (dflt uPort) (agAt xs a).2.2.2.2 0).2] [b,0]else false
section
variable (bk:List (List NAgent))(xs:List NAgent)(us:List Value)(a b:Int)(ha:0≤a∧a<(xs.length:Nat))(hb:0≤b∧b<(xs.length:Nat))
include ha hb
end
end Go.Proofs.YtjijpkphkicoeaaGreat
namespace Go.Proofs.YtjijpkphkicoeaaGreat
open Go Go.RowKit Go.Proofs Go.Tr
section
variable (bk:List (List NAgent))(xs:List NAgent)(us:List Value)(e:NEvent)(hl:xs.length≤1000000)
include hl
variable (ha:ND xs e.1=true)(hb:ND xs e.2.1=true)(hp:0<(agAt xs e.1).2.2.2.2.length)
include ha hb hp
variable (h:Oh xs e.1 e.2.1=true)
include h
end
end Go.Proofs.YtjijpkphkicoeaaGreat
