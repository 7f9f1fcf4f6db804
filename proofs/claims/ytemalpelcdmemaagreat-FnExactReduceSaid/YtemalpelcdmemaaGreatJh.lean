
/- The reference's nets: wires, new agents, holes. -/
import Derived.Test.YtemalpelcdmemaaGreatShort
import Derived.Test.YtemalpelcdmemaaGreatProg
import Derived.Test.YtemalpelcdmemaaGreatVti
import Derived.Test.YtemalpelcdmemaaGreatNz
import Derived.Test.YtemalpelcdmemaaGreatIo
import Derived.Test.YtemalpelcdmemaaGreatVV
set_option maxHeartbeats 4000000
set_option maxRecDepth 100000
set_option linter.unusedSimpArgs false
set_option linter.unusedVariables false
set_option linter.unusedSectionVars false
namespace Go.Proofs.YtemalpelcdmemaaGreat
open Go Go.RowKit Go.Proofs Go.Tr
theorem Du:callOk Tryz.prog 217=true:=by kernel_rfl
theorem JM:callOk Tryz.prog 134=true:=by kernel_rfl
theorem OZ:callOk Tryz.prog 186=true:=by kernel_rfl
theorem OY:callOk Tryz.prog 183=true:=by kernel_rfl
theorem Ii:callOk Tryz.prog 190=true:=by kernel_rfl
theorem JJ:callOk Tryz.prog 185=true:=by kernel_rfl
theorem bV(a b:Int):aR Tryz.prog 135 [.int .i64 a,.int .i64 b] (.agg [.int .i64 a,.int .i64 b]):=by
 refine aR.intro (nt:=8) ti_ok mixed (by kernel_rfl) Tryz.func135 rfl rfl rfl rfl rfl ?_;exact rfl
theorem Xg(xs:List NAgent)(p:aJ)(hp:ak xs p):aR Tryz.prog 134 [.rp uNet xs,vP p] (vP (aF xs p)):=by
 obtain⟨p1,p2,p3,p4⟩:=hp;refine aR.intro (nt:=18) ti_ok mixed JM Tryz.func134 rfl rfl rfl rfl rfl ?_;refine aI ⟨p1,p2⟩ ?_;refine aI ⟨p3,p4⟩ ?_;refine aI (by kernel_rfl) ?_;exact rfl
theorem TQ:callOk Tryz.prog 179=true:=by kernel_rfl
theorem Yf(xs:List Int)(hx:xs.length≤1048576):FCall Tryz.prog 179 [.rsl (.int .i64) xs] [] (.sl 10000) [.row 10000 2 1 (.int .i64) xs []]:=by
 refine FCall.intro (nt:=6) ti_ok mixed TQ Tryz.func179 rfl rfl rfl rfl rfl rfl ?_;refine aI (by show 0+xs.length≤_;omega) ?_;refine fin [(10000,5)] (aI rfl ?_);exact⟨⟨rfl,nP⟩,trivial⟩
theorem Pk:FCall Tryz.prog 179 [.raw (.slice none 0 0)] [] (.sl 10000) [.row 10000 2 1 (.int .i64) [] []]:=FCall.of_nil (Yf [] (by simp))
theorem Pm(ds:List Int)(hd:ds.length≤1048576):FCall Tryz.prog 179 [.sl 10000] [.row 10000 2 1 (.int .i64) ds []] (.sl 10001) [.row 10001 2 1 (.int .i64) ds [],.row 10000 2 1 (.int .i64) ds []]:=
 FCall.of_f (ts2:=[.row 10001 2 1 (.int .i64) ds []]) ti_ok [0] TQ (Yf ds hd) rfl rfl rfl
theorem Ls:callOk Tryz.prog 121=true:=by kernel_rfl
theorem JQ(x:NAgent)(h1:x.2.2.2.1.length≤1048576)(h2:x.2.2.2.2.length≤1048576):FCall Tryz.prog 121 [.rp uAgent x] [] (.agg [.int .i64 x.1,.int .i64 x.2.1,.int .i64 x.2.2.1,.sl 10000,.sl 10001]) [.row 10000 2 1 (.int .i64) x.2.2.2.1 [],.row 10001 104 2 uPort x.2.2.2.2 []]:=by
 refine FCall.intro (nt:=27) ti_ok mixed Ls Tryz.func121 rfl rfl rfl rfl rfl rfl ?_;refine Or.inr (eI _ (eI _ (aI (Yf _ h1) ?_)));refine aI (by show 0+x.2.2.2.2.length≤_;omega) ?_;refine aI (by kernel_rfl) ?_;refine fin [(10000,19),(10001,25)] (aI rfl ?_);exact⟨⟨rfl,nP⟩,⟨rfl,nP⟩,trivial⟩
theorem zm(xs:List NAgent)(us:List Value)(i:Int)(h1:(ah xs i).2.2.2.1.length≤1048576)(h2:(ah xs i).2.2.2.2.length≤1048576):FCall Tryz.prog 121 [.ep 10000 5 i 0] [.row 10000 150 5 uAgent xs us] (.agg [.int .i64 (ah xs i).1,.int .i64 (ah xs i).2.1,.int .i64 (ah xs i).2.2.1,.sl 10001,.sl 10002]) [.row 10001 2 1 (.int .i64) (ah xs i).2.2.2.1 [],.row 10002 104 2 uPort (ah xs i).2.2.2.2 [],.row 10000 150 5 uAgent xs us]:=
 FCall.of_f (ts2:=[.row 10001 2 1 (.int .i64) (ah xs i).2.2.2.1 [],.row 10002 104 2 uPort (ah xs i).2.2.2.2 []]) ti_ok [0] Ls (JQ (ah xs i) h1 h2) rfl rfl rfl
abbrev tA(xs:List NAgent)(us:List Value):List Tok:=[.cel 10000 36 [.sl 10001],.row 10001 150 5 uAgent xs us]
abbrev QX(g:Nat)(xs:List NAgent)(us:List Value):List Tok:=[.cel 10000 36 [.sl g],.row g 150 5 uAgent xs us]
theorem Ht(xs:List NAgent)(us:List Value)(p q:aJ)(hp:ak xs p)(hq:ak xs q):FCall Tryz.prog 217 [.ptr 10000 0,vP p,vP q] (tA xs us) (.tup []) (tA (bQ xs p q) us):=by
 refine FCall.expose Du ?_;intro us' hpre hlen
 skip
 have hq':ak (aN xs p q) q:=hq.set;obtain⟨p1,p2,p3,p4⟩:=hp;obtain⟨q1,q2,q3,q4⟩:=hq';have q2':q.1<(xs.length:Nat):=by rwa[dD]at q2
 refine FCall.intro (nt:=32) ti_ok mixed Du Tryz.func217 rfl rfl rfl rfl rfl rfl ?_;refine aI ⟨p1,p2⟩ ?_;refine aI (tJ hlen p1 p2) ?_;refine aI ⟨p3,p4⟩ ?_;refine eI 10001 (aI ⟨⟨p1,p2,sO hlen p1 p2 (by decide)⟩,p3,p4⟩ ?_);refine aI (by kernel_rfl) ?_;refine aI ⟨q1,q2⟩ ?_;refine aI (tJ hlen q1 q2') ?_;refine aI ⟨q3,q4⟩ ?_;refine eI 10001 (aI ⟨⟨q1,q2,sO hlen q1 q2' (by decide)⟩,q3,q4⟩ ?_);refine aI (by kernel_rfl) ?_;refine fin [] (aI rfl ?_);exact⟨trivial,⟨rfl,trivial⟩,⟨rfl,hpre⟩,trivial⟩
theorem Ub(xs:List NAgent)(us:List Value)(p:aJ)(hp:ak xs p):FCall Tryz.prog 134 [.ptr 10000 0,vP p] (tA xs us) (vP (aF xs p)) (tA xs us):=
 FCall.of_q ti_ok [71,0] JM (Xg xs p hp) rfl
theorem moveA(xs:List NAgent)(us:List Value)(p q:aJ)(hA:bG xs)(hp:ak xs p)(hq:ak xs q):FCall Tryz.prog 186 [.ptr 10000 0,vP p,vP q] (tA xs us) (.tup []) (tA (dN xs p q) us):=by
 have hl:=Ht xs us q (aF xs p) hq (hA p hp);rw[vE hq (hA p hp)]at hl;refine FCall.intro (nt:=12) ti_ok mixed OZ Tryz.func186 rfl rfl rfl rfl rfl rfl ?_;refine Or.inr (eI _ (eI _ (aI (Ub xs us p hp) ?_)));refine Or.inr (eI _ (eI _ (aI hl ?_)));refine aI (by kernel_rfl) ?_;refine fin [] (aI rfl ?_);exact⟨trivial,⟨rfl,trivial⟩,⟨rfl,pR _⟩,trivial⟩
theorem OH(xs:List NAgent)(us:List Value)(p q:aJ)(hp:ak xs p)(hq:ak xs q)(hr:ak xs (aF xs p))(hs:ak xs (aF xs q)):FCall Tryz.prog 183 [.ptr 10000 0,vP p,vP q] (tA xs us) (.tup []) (tA (aT xs p q) us):=by
 refine FCall.intro (nt:=21) ti_ok mixed OY Tryz.func183 rfl rfl rfl rfl rfl rfl ?_;refine Or.inr (eI _ (eI _ (aI (Ub xs us p hp) ?_)));refine Or.inr (eI _ (eI _ (aI (Ub xs us q hq) ?_)));refine aI ⟨by kernel_rfl,rfl⟩ ?_;refine aI (fun h1=> ?_) (fun h1=> ?_)
 ·refine Or.inr (eI _ (eI _ (aI (Ht xs us (aF xs p) (aF xs q) hr hs) ?_)));refine fin [] (aI rfl ?_);refine⟨trivial,⟨rfl,trivial⟩,⟨?_,pR _⟩,trivial⟩;have h1:(!gY [(aF xs p).1,(aF xs p).2] [q.1,q.2])=true:=h1
  have h2:((aF xs p).1==q.1&&(aF xs p).2==q.2)=false:=by
   cases hc:((aF xs p).1==q.1&&(aF xs p).2==q.2)with
   |false=>rfl
   |true=>simp[gY,hc]at h1
  show bQ xs (aF xs p) (aF xs q)=_;unfold aT;rw[h2];rfl
 ·refine fin [] (aI rfl ?_);refine⟨trivial,⟨rfl,trivial⟩,⟨?_,pR _⟩,trivial⟩;have h1:(!gY [(aF xs p).1,(aF xs p).2] [q.1,q.2])=false:=h1;have h2:((aF xs p).1==q.1&&(aF xs p).2==q.2)=true:=by simpa[gY]using h1
  show xs=_;unfold aT;rw[h2];rfl
theorem lK(xs:List NAgent)(us:List Value)(a:Int)(ha:0≤a∧a<(xs.length:Nat)):FCall Tryz.prog 190 [.ptr 10000 0,.int .i64 a] (tA xs us) (.tup []) (tA (bE xs a) []):=by
 refine FCall.intro (nt:=11) ti_ok mixed Ii Tryz.func190 rfl rfl rfl rfl rfl rfl ?_;refine aI ha ?_;refine fin [] (aI rfl ?_);exact⟨trivial,⟨rfl,trivial⟩,⟨rfl,nP⟩,trivial⟩
theorem uX(xs:List NAgent)(us:List Value)(k l v:Int)(n:Nat)(hl:xs.length≤1000000)(hn:n≤1000000):FCall Tryz.prog 185 [.ptr 10000 0,.int .i64 k,.int .i64 l,.int .i64 v,.raw (.slice none 0 0),.int .i64 (n:Nat)] (tA xs us) (.int .i64 (xs.length:Nat)) (QX 10002 (xs++[bD k l v [] n]) us):=by
 refine FCall.intro (nt:=48) ti_ok mixed JJ Tryz.func185 rfl rfl rfl rfl rfl rfl ?_;refine Or.inr (eI _ (eI _ (aI Pk ?_)))
 refine lp Nat (fun j=>[(14,.int .i64 ((n:Nat)-(j:Nat)))])
  (fun j=>match j with|0=>[.cel 13 150 [.int .i64 k,.int .i64 l,.int .i64 v,.sl 19,.raw (.slice none 0 0)],.cel 10000 36 [.sl 10001],.row 10001 150 5 uAgent xs us,.row 19 2 1 (.int .i64) [] []]|j+1=>[.cel 13 150 [.int .i64 k,.int .i64 l,.int .i64 v,.sl 19,.sl 20001],.cel 10000 36 [.sl 10001],.row 10001 150 5 uAgent xs us,.row 19 2 1 (.int .i64) [] [],.row 20001 104 2 uPort (List.replicate (j+1) (0,0)) []])
  (fun j=>n-j) (fun j=>j≤n) 0 (Nat.zero_le _) ?_ ?_
 ·exact hd [] rfl (aI (aI (Int.sub_zero _).symm rfl) trivial) ⟨trivial,⟨⟨rfl,rfl⟩,⟨rfl,rfl⟩,⟨rfl,rfl⟩,rfl,rfl,trivial⟩,trivial,⟨rfl,trivial⟩,⟨rfl,pR _⟩,⟨rfl,nP⟩,trivial⟩
 intro j hj;have hwr:IntKind.i64.wrap ((n:Nat)-(j:Nat)-1)=(n:Nat)-((j+1:Nat):Int):=by rw[IntWalk.i64_in _ (by omega)];omega
 cases j with
 |zero=>
  refine aI (fun q1=> ?_) (fun q1=> ?_)
  ·have hlt:0<n:=by have q2:decide ((0:Int)<(n:Nat)-((0:Nat):Int))=true:=q1;simp at q2;omega
   refine aI (by show 1≤1073741824;omega) ?_;refine lp_next 1 (by omega) ?_ ?_
   ·exact hd [(20001,30)] rfl (aI (aI hwr rfl) trivial) ⟨trivial,⟨⟨rfl,rfl⟩,⟨rfl,rfl⟩,⟨rfl,rfl⟩,rfl,rfl,trivial⟩,trivial,⟨rfl,trivial⟩,⟨rfl,pR _⟩,⟨rfl,nP⟩,⟨rfl,nP⟩,trivial⟩
   ·show n-1<n-0;omega
  ·have hn0:n=0:=by have q2:decide ((0:Int)<(n:Nat)-((0:Nat):Int))=false:=q1;simp at q2;omega
   refine aI (by show xs.length+1≤_;omega) ?_;refine aI (by kernel_rfl) ?_;refine fin [(10002,39)] (aI ?_ ?_)
   ·show IntKind.i64.wrap (((xs++[_]).length:Nat)-1)=((xs.length:Nat):Int)∧IntKind.i64=IntKind.i64;rw[List.length_append,List.length_singleton,IntWalk.i64_in _ (by omega)];exact⟨by omega,rfl⟩
   ·refine⟨trivial,⟨rfl,trivial⟩,⟨?_,pR _⟩,trivial⟩;show xs++[(k,l,v,[],[])]=xs++[bD k l v [] n];unfold bD;rw[hn0];rfl
 |succ j=>
  refine aI (fun q1=> ?_) (fun q1=> ?_)
  ·have hlt:j+1<n:=by have q2:decide ((0:Int)<(n:Nat)-((j+1:Nat):Int))=true:=q1;simp at q2;omega
   refine aI (by show(List.replicate (j+1) ((0:Int),(0:Int))).length+1≤1073741824;rw[List.length_replicate];omega) ?_;refine lp_next (j+2) (by omega) ?_ ?_
   ·refine hd [(20001,30)] rfl (aI (aI hwr rfl) trivial) ⟨trivial,⟨⟨rfl,rfl⟩,⟨rfl,rfl⟩,⟨rfl,rfl⟩,rfl,rfl,trivial⟩,trivial,⟨rfl,trivial⟩,⟨rfl,pR _⟩,⟨rfl,nP⟩,⟨?_,nP⟩,trivial⟩;show List.replicate (j+1) ((0:Int),(0:Int))++[(0,0)]=List.replicate (j+1+1) (0,0);rw[List.replicate_succ' (n:=j+1)]
   ·show n-(j+2)<n-(j+1);omega
  ·have hn0:n=j+1:=by have q2:decide ((0:Int)<(n:Nat)-((j+1:Nat):Int))=false:=q1;simp at q2;omega
   refine aI (by show xs.length+1≤_;omega) ?_;refine aI (by kernel_rfl) ?_;refine fin [(10002,39)] (aI ?_ ?_)
   ·show IntKind.i64.wrap (((xs++[_]).length:Nat)-1)=((xs.length:Nat):Int)∧IntKind.i64=IntKind.i64;rw[List.length_append,List.length_singleton,IntWalk.i64_in _ (by omega)];exact⟨by omega,rfl⟩
   ·refine⟨trivial,⟨rfl,trivial⟩,⟨?_,pR _⟩,trivial⟩;show xs++[(k,l,v,[],List.replicate (j+1) (0,0))]=xs++[bD k l v [] n];unfold bD;rw[hn0]
theorem IW(xs:List NAgent)(us:List Value)(k l v:Int)(n:Nat)(ds:List Int)(hl:xs.length≤1000000)(hn:n≤1000000)(hd0:ds.length≤1000000):FCall Tryz.prog 185 [.ptr 10000 0,.int .i64 k,.int .i64 l,.int .i64 v,.sl 10002,.int .i64 (n:Nat)] (tA xs us++[.row 10002 2 1 (.int .i64) ds []]) (.int .i64 (xs.length:Nat)) (QX 10003 (xs++[bD k l v ds n]) us++[.row 10002 2 1 (.int .i64) ds []]):=by
 refine FCall.intro (nt:=48) ti_ok mixed JJ Tryz.func185 rfl rfl rfl rfl rfl rfl ?_;refine Or.inr (eI _ (eI _ (aI (Pm ds (by omega)) ?_)))
 refine lp Nat (fun j=>[(14,.int .i64 ((n:Nat)-(j:Nat)))])
  (fun j=>match j with|0=>[.cel 13 150 [.int .i64 k,.int .i64 l,.int .i64 v,.sl 19,.raw (.slice none 0 0)],.cel 10000 36 [.sl 10001],.row 10001 150 5 uAgent xs us,.row 10002 2 1 (.int .i64) ds [],.row 19 2 1 (.int .i64) ds []]|j+1=>[.cel 13 150 [.int .i64 k,.int .i64 l,.int .i64 v,.sl 19,.sl 20001],.cel 10000 36 [.sl 10001],.row 10001 150 5 uAgent xs us,.row 10002 2 1 (.int .i64) ds [],.row 19 2 1 (.int .i64) ds [],.row 20001 104 2 uPort (List.replicate (j+1) (0,0)) []])
  (fun j=>n-j) (fun j=>j≤n) 0 (Nat.zero_le _) ?_ ?_
 ·exact hd [] rfl (aI (aI (Int.sub_zero _).symm rfl) trivial) ⟨trivial,⟨⟨rfl,rfl⟩,⟨rfl,rfl⟩,⟨rfl,rfl⟩,rfl,rfl,trivial⟩,trivial,⟨rfl,trivial⟩,⟨rfl,pR _⟩,⟨rfl,nP⟩,⟨rfl,nP⟩,trivial⟩
 intro j hj;have hwr:IntKind.i64.wrap ((n:Nat)-(j:Nat)-1)=(n:Nat)-((j+1:Nat):Int):=by rw[IntWalk.i64_in _ (by omega)];omega
 cases j with
 |zero=>
  refine aI (fun q1=> ?_) (fun q1=> ?_)
  ·have hlt:0<n:=by have q2:decide ((0:Int)<(n:Nat)-((0:Nat):Int))=true:=q1;simp at q2;omega
   refine aI (by show 1≤1073741824;omega) ?_;refine lp_next 1 (by omega) ?_ ?_
   ·exact hd [(20001,30)] rfl (aI (aI hwr rfl) trivial) ⟨trivial,⟨⟨rfl,rfl⟩,⟨rfl,rfl⟩,⟨rfl,rfl⟩,rfl,rfl,trivial⟩,trivial,⟨rfl,trivial⟩,⟨rfl,pR _⟩,⟨rfl,nP⟩,⟨rfl,nP⟩,⟨rfl,nP⟩,trivial⟩
   ·show n-1<n-0;omega
  ·have hn0:n=0:=by have q2:decide ((0:Int)<(n:Nat)-((0:Nat):Int))=false:=q1;simp at q2;omega
   refine aI (by show xs.length+1≤_;omega) ?_;refine aI (by kernel_rfl) ?_;refine fin [(10003,39)] (aI ?_ ?_)
   ·show IntKind.i64.wrap (((xs++[_]).length:Nat)-1)=((xs.length:Nat):Int)∧IntKind.i64=IntKind.i64;rw[List.length_append,List.length_singleton,IntWalk.i64_in _ (by omega)];exact⟨by omega,rfl⟩
   ·refine⟨trivial,⟨rfl,trivial⟩,⟨?_,pR _⟩,⟨rfl,nP⟩,trivial⟩;show xs++[(k,l,v,ds,[])]=xs++[bD k l v ds n];unfold bD;rw[hn0];rfl
 |succ j=>
  refine aI (fun q1=> ?_) (fun q1=> ?_)
  ·have hlt:j+1<n:=by have q2:decide ((0:Int)<(n:Nat)-((j+1:Nat):Int))=true:=q1;simp at q2;omega
   refine aI (by show(List.replicate (j+1) ((0:Int),(0:Int))).length+1≤1073741824;rw[List.length_replicate];omega) ?_;refine lp_next (j+2) (by omega) ?_ ?_
   ·refine hd [(20001,30)] rfl (aI (aI hwr rfl) trivial) ⟨trivial,⟨⟨rfl,rfl⟩,⟨rfl,rfl⟩,⟨rfl,rfl⟩,rfl,rfl,trivial⟩,trivial,⟨rfl,trivial⟩,⟨rfl,pR _⟩,⟨rfl,nP⟩,⟨rfl,nP⟩,⟨?_,nP⟩,trivial⟩;show List.replicate (j+1) ((0:Int),(0:Int))++[(0,0)]=List.replicate (j+1+1) (0,0);rw[List.replicate_succ' (n:=j+1)]
   ·show n-(j+2)<n-(j+1);omega
  ·have hn0:n=j+1:=by have q2:decide ((0:Int)<(n:Nat)-((j+1:Nat):Int))=false:=q1;simp at q2;omega
   refine aI (by show xs.length+1≤_;omega) ?_;refine aI (by kernel_rfl) ?_;refine fin [(10003,39)] (aI ?_ ?_)
   ·show IntKind.i64.wrap (((xs++[_]).length:Nat)-1)=((xs.length:Nat):Int)∧IntKind.i64=IntKind.i64;rw[List.length_append,List.length_singleton,IntWalk.i64_in _ (by omega)];exact⟨by omega,rfl⟩
   ·refine⟨trivial,⟨rfl,trivial⟩,⟨?_,pR _⟩,⟨rfl,nP⟩,trivial⟩;show xs++[(k,l,v,ds,List.replicate (j+1) (0,0))]=xs++[bD k l v ds n];unfold bD;rw[hn0]
abbrev tB(xs:List NAgent)(us:List Value)(pk:Int)(tr:List Int):List Tok:=[.cel 10000 124 [.sl 10001,.sl 10002,.int .i64 pk],.row 10001 150 5 uAgent xs us,.row 10002 2 1 (.int .i64) tr []]
abbrev QY(g:Nat)(xs:List NAgent)(us:List Value)(pk:Int)(tr:List Int):List Tok:=[.cel 10000 124 [.sl g,.sl 10002,.int .i64 pk],.row g 150 5 uAgent xs us,.row 10002 2 1 (.int .i64) tr []]
theorem Hu(xs:List NAgent)(us:List Value)(pk:Int)(tr:List Int)(p q:aJ)(hp:ak xs p)(hq:ak xs q):FCall Tryz.prog 217 [.ptr 10000 0,vP p,vP q] (tB xs us pk tr) (.tup []) (tB (bQ xs p q) us pk tr):=by
 refine FCall.expose Du ?_;intro us' hpre hlen;intro us2 hpre2 hlen2;have hq':ak (aN xs p q) q:=hq.set;obtain⟨p1,p2,p3,p4⟩:=hp;obtain⟨q1,q2,q3,q4⟩:=hq';have q2':q.1<(xs.length:Nat):=by rwa[dD]at q2
 refine FCall.intro (nt:=32) ti_ok mixed Du Tryz.func217 rfl rfl rfl rfl rfl rfl ?_;refine aI ⟨p1,p2⟩ ?_;refine aI (tJ hlen p1 p2) ?_;refine aI ⟨p3,p4⟩ ?_;refine eI 10001 (aI ⟨⟨p1,p2,sO hlen p1 p2 (by decide)⟩,p3,p4⟩ ?_);refine aI (by kernel_rfl) ?_;refine aI ⟨q1,q2⟩ ?_;refine aI (tJ hlen q1 q2') ?_;refine aI ⟨q3,q4⟩ ?_;refine eI 10001 (aI ⟨⟨q1,q2,sO hlen q1 q2' (by decide)⟩,q3,q4⟩ ?_);refine aI (by kernel_rfl) ?_;refine fin [] (aI rfl ?_);exact⟨trivial,⟨rfl,rfl,⟨rfl,rfl⟩,trivial⟩,⟨rfl,hpre⟩,⟨rfl,nP⟩,trivial⟩
theorem Uc(xs:List NAgent)(us:List Value)(pk:Int)(tr:List Int)(p:aJ)(hp:ak xs p):FCall Tryz.prog 134 [.ptr 10000 0,vP p] (tB xs us pk tr) (vP (aF xs p)) (tB xs us pk tr):=
 FCall.of_q ti_ok [71,0] JM (Xg xs p hp) rfl
theorem moveB(xs:List NAgent)(us:List Value)(pk:Int)(tr:List Int)(p q:aJ)(hA:bG xs)(hp:ak xs p)(hq:ak xs q):FCall Tryz.prog 186 [.ptr 10000 0,vP p,vP q] (tB xs us pk tr) (.tup []) (tB (dN xs p q) us pk tr):=by
 have hl:=Hu xs us pk tr q (aF xs p) hq (hA p hp);rw[vE hq (hA p hp)]at hl;refine FCall.intro (nt:=12) ti_ok mixed OZ Tryz.func186 rfl rfl rfl rfl rfl rfl ?_;refine Or.inr (eI _ (eI _ (aI (Uc xs us pk tr p hp) ?_)));refine Or.inr (eI _ (eI _ (aI hl ?_)));refine aI (by kernel_rfl) ?_;refine fin [] (aI rfl ?_);exact⟨trivial,⟨rfl,rfl,⟨rfl,rfl⟩,trivial⟩,⟨rfl,pR _⟩,⟨rfl,nP⟩,trivial⟩
theorem OI(xs:List NAgent)(us:List Value)(pk:Int)(tr:List Int)(p q:aJ)(hp:ak xs p)(hq:ak xs q)(hr:ak xs (aF xs p))(hs:ak xs (aF xs q)):FCall Tryz.prog 183 [.ptr 10000 0,vP p,vP q] (tB xs us pk tr) (.tup []) (tB (aT xs p q) us pk tr):=by
 refine FCall.intro (nt:=21) ti_ok mixed OY Tryz.func183 rfl rfl rfl rfl rfl rfl ?_;refine Or.inr (eI _ (eI _ (aI (Uc xs us pk tr p hp) ?_)));refine Or.inr (eI _ (eI _ (aI (Uc xs us pk tr q hq) ?_)));refine aI ⟨by kernel_rfl,rfl⟩ ?_;refine aI (fun h1=> ?_) (fun h1=> ?_)
 ·refine Or.inr (eI _ (eI _ (aI (Hu xs us pk tr (aF xs p) (aF xs q) hr hs) ?_)));refine fin [] (aI rfl ?_);refine⟨trivial,⟨rfl,rfl,⟨rfl,rfl⟩,trivial⟩,⟨?_,pR _⟩,⟨rfl,nP⟩,trivial⟩;have h1:(!gY [(aF xs p).1,(aF xs p).2] [q.1,q.2])=true:=h1
  have h2:((aF xs p).1==q.1&&(aF xs p).2==q.2)=false:=by
   cases hc:((aF xs p).1==q.1&&(aF xs p).2==q.2)with
   |false=>rfl
   |true=>simp[gY,hc]at h1
  show bQ xs (aF xs p) (aF xs q)=_;unfold aT;rw[h2];rfl
 ·refine fin [] (aI rfl ?_);refine⟨trivial,⟨rfl,rfl,⟨rfl,rfl⟩,trivial⟩,⟨?_,pR _⟩,⟨rfl,nP⟩,trivial⟩;have h1:(!gY [(aF xs p).1,(aF xs p).2] [q.1,q.2])=false:=h1;have h2:((aF xs p).1==q.1&&(aF xs p).2==q.2)=true:=by simpa[gY]using h1
  show xs=_;unfold aT;rw[h2];rfl
theorem lQ(xs:List NAgent)(us:List Value)(pk:Int)(tr:List Int)(a:Int)(ha:0≤a∧a<(xs.length:Nat)):FCall Tryz.prog 190 [.ptr 10000 0,.int .i64 a] (tB xs us pk tr) (.tup []) (tB (bE xs a) [] pk tr):=by
 refine FCall.intro (nt:=11) ti_ok mixed Ii Tryz.func190 rfl rfl rfl rfl rfl rfl ?_;refine aI ha ?_;refine fin [] (aI rfl ?_);exact⟨trivial,⟨rfl,rfl,⟨rfl,rfl⟩,trivial⟩,⟨rfl,nP⟩,⟨rfl,nP⟩,trivial⟩
theorem uY(xs:List NAgent)(us:List Value)(pk:Int)(tr:List Int)(k l v:Int)(n:Nat)(hl:xs.length≤1000000)(hn:n≤1000000):FCall Tryz.prog 185 [.ptr 10000 0,.int .i64 k,.int .i64 l,.int .i64 v,.raw (.slice none 0 0),.int .i64 (n:Nat)] (tB xs us pk tr) (.int .i64 (xs.length:Nat)) (QY 10003 (xs++[bD k l v [] n]) us pk tr):=by
 refine FCall.intro (nt:=48) ti_ok mixed JJ Tryz.func185 rfl rfl rfl rfl rfl rfl ?_;refine Or.inr (eI _ (eI _ (aI Pk ?_)))
 refine lp Nat (fun j=>[(14,.int .i64 ((n:Nat)-(j:Nat)))])
  (fun j=>match j with|0=>[.cel 13 150 [.int .i64 k,.int .i64 l,.int .i64 v,.sl 19,.raw (.slice none 0 0)],.cel 10000 124 [.sl 10001,.sl 10002,.int .i64 pk],.row 10001 150 5 uAgent xs us,.row 10002 2 1 (.int .i64) tr [],.row 19 2 1 (.int .i64) [] []]|j+1=>[.cel 13 150 [.int .i64 k,.int .i64 l,.int .i64 v,.sl 19,.sl 20001],.cel 10000 124 [.sl 10001,.sl 10002,.int .i64 pk],.row 10001 150 5 uAgent xs us,.row 10002 2 1 (.int .i64) tr [],.row 19 2 1 (.int .i64) [] [],.row 20001 104 2 uPort (List.replicate (j+1) (0,0)) []])
  (fun j=>n-j) (fun j=>j≤n) 0 (Nat.zero_le _) ?_ ?_
 ·exact hd [] rfl (aI (aI (Int.sub_zero _).symm rfl) trivial) ⟨trivial,⟨⟨rfl,rfl⟩,⟨rfl,rfl⟩,⟨rfl,rfl⟩,rfl,rfl,trivial⟩,trivial,⟨rfl,rfl,⟨rfl,rfl⟩,trivial⟩,⟨rfl,pR _⟩,⟨rfl,nP⟩,⟨rfl,nP⟩,trivial⟩
 intro j hj;have hwr:IntKind.i64.wrap ((n:Nat)-(j:Nat)-1)=(n:Nat)-((j+1:Nat):Int):=by rw[IntWalk.i64_in _ (by omega)];omega
 cases j with
 |zero=>
  refine aI (fun q1=> ?_) (fun q1=> ?_)
  ·have hlt:0<n:=by have q2:decide ((0:Int)<(n:Nat)-((0:Nat):Int))=true:=q1;simp at q2;omega
   refine aI (by show 1≤1073741824;omega) ?_;refine lp_next 1 (by omega) ?_ ?_
   ·exact hd [(20001,30)] rfl (aI (aI hwr rfl) trivial) ⟨trivial,⟨⟨rfl,rfl⟩,⟨rfl,rfl⟩,⟨rfl,rfl⟩,rfl,rfl,trivial⟩,trivial,⟨rfl,rfl,⟨rfl,rfl⟩,trivial⟩,⟨rfl,pR _⟩,⟨rfl,nP⟩,⟨rfl,nP⟩,⟨rfl,nP⟩,trivial⟩
   ·show n-1<n-0;omega
  ·have hn0:n=0:=by have q2:decide ((0:Int)<(n:Nat)-((0:Nat):Int))=false:=q1;simp at q2;omega
   refine aI (by show xs.length+1≤_;omega) ?_;refine aI (by kernel_rfl) ?_;refine fin [(10003,39)] (aI ?_ ?_)
   ·show IntKind.i64.wrap (((xs++[_]).length:Nat)-1)=((xs.length:Nat):Int)∧IntKind.i64=IntKind.i64;rw[List.length_append,List.length_singleton,IntWalk.i64_in _ (by omega)];exact⟨by omega,rfl⟩
   ·refine⟨trivial,⟨rfl,rfl,⟨rfl,rfl⟩,trivial⟩,⟨?_,pR _⟩,⟨rfl,nP⟩,trivial⟩;show xs++[(k,l,v,[],[])]=xs++[bD k l v [] n];unfold bD;rw[hn0];rfl
 |succ j=>
  refine aI (fun q1=> ?_) (fun q1=> ?_)
  ·have hlt:j+1<n:=by have q2:decide ((0:Int)<(n:Nat)-((j+1:Nat):Int))=true:=q1;simp at q2;omega
   refine aI (by show(List.replicate (j+1) ((0:Int),(0:Int))).length+1≤1073741824;rw[List.length_replicate];omega) ?_;refine lp_next (j+2) (by omega) ?_ ?_
   ·refine hd [(20001,30)] rfl (aI (aI hwr rfl) trivial) ⟨trivial,⟨⟨rfl,rfl⟩,⟨rfl,rfl⟩,⟨rfl,rfl⟩,rfl,rfl,trivial⟩,trivial,⟨rfl,rfl,⟨rfl,rfl⟩,trivial⟩,⟨rfl,pR _⟩,⟨rfl,nP⟩,⟨rfl,nP⟩,⟨?_,nP⟩,trivial⟩;show List.replicate (j+1) ((0:Int),(0:Int))++[(0,0)]=List.replicate (j+1+1) (0,0);rw[List.replicate_succ' (n:=j+1)]
   ·show n-(j+2)<n-(j+1);omega
  ·have hn0:n=j+1:=by have q2:decide ((0:Int)<(n:Nat)-((j+1:Nat):Int))=false:=q1;simp at q2;omega
   refine aI (by show xs.length+1≤_;omega) ?_;refine aI (by kernel_rfl) ?_;refine fin [(10003,39)] (aI ?_ ?_)
   ·show IntKind.i64.wrap (((xs++[_]).length:Nat)-1)=((xs.length:Nat):Int)∧IntKind.i64=IntKind.i64;rw[List.length_append,List.length_singleton,IntWalk.i64_in _ (by omega)];exact⟨by omega,rfl⟩
   ·refine⟨trivial,⟨rfl,rfl,⟨rfl,rfl⟩,trivial⟩,⟨?_,pR _⟩,⟨rfl,nP⟩,trivial⟩;show xs++[(k,l,v,[],List.replicate (j+1) (0,0))]=xs++[bD k l v [] n];unfold bD;rw[hn0]
theorem IY(xs:List NAgent)(us:List Value)(pk:Int)(tr:List Int)(k l v:Int)(n:Nat)(ds:List Int)(hl:xs.length≤1000000)(hn:n≤1000000)(hd0:ds.length≤1000000):FCall Tryz.prog 185 [.ptr 10000 0,.int .i64 k,.int .i64 l,.int .i64 v,.sl 10003,.int .i64 (n:Nat)] (tB xs us pk tr++[.row 10003 2 1 (.int .i64) ds []]) (.int .i64 (xs.length:Nat)) (QY 10004 (xs++[bD k l v ds n]) us pk tr++[.row 10003 2 1 (.int .i64) ds []]):=by
 refine FCall.intro (nt:=48) ti_ok mixed JJ Tryz.func185 rfl rfl rfl rfl rfl rfl ?_;refine Or.inr (eI _ (eI _ (aI (Pm ds (by omega)) ?_)))
 refine lp Nat (fun j=>[(14,.int .i64 ((n:Nat)-(j:Nat)))])
  (fun j=>match j with|0=>[.cel 13 150 [.int .i64 k,.int .i64 l,.int .i64 v,.sl 19,.raw (.slice none 0 0)],.cel 10000 124 [.sl 10001,.sl 10002,.int .i64 pk],.row 10001 150 5 uAgent xs us,.row 10002 2 1 (.int .i64) tr [],.row 10003 2 1 (.int .i64) ds [],.row 19 2 1 (.int .i64) ds []]|j+1=>[.cel 13 150 [.int .i64 k,.int .i64 l,.int .i64 v,.sl 19,.sl 20001],.cel 10000 124 [.sl 10001,.sl 10002,.int .i64 pk],.row 10001 150 5 uAgent xs us,.row 10002 2 1 (.int .i64) tr [],.row 10003 2 1 (.int .i64) ds [],.row 19 2 1 (.int .i64) ds [],.row 20001 104 2 uPort (List.replicate (j+1) (0,0)) []])
  (fun j=>n-j) (fun j=>j≤n) 0 (Nat.zero_le _) ?_ ?_
 ·exact hd [] rfl (aI (aI (Int.sub_zero _).symm rfl) trivial) ⟨trivial,⟨⟨rfl,rfl⟩,⟨rfl,rfl⟩,⟨rfl,rfl⟩,rfl,rfl,trivial⟩,trivial,⟨rfl,rfl,⟨rfl,rfl⟩,trivial⟩,⟨rfl,pR _⟩,⟨rfl,nP⟩,⟨rfl,nP⟩,⟨rfl,nP⟩,trivial⟩
 intro j hj;have hwr:IntKind.i64.wrap ((n:Nat)-(j:Nat)-1)=(n:Nat)-((j+1:Nat):Int):=by rw[IntWalk.i64_in _ (by omega)];omega
 cases j with
 |zero=>
  refine aI (fun q1=> ?_) (fun q1=> ?_)
  ·have hlt:0<n:=by have q2:decide ((0:Int)<(n:Nat)-((0:Nat):Int))=true:=q1;simp at q2;omega
   refine aI (by show 1≤1073741824;omega) ?_;refine lp_next 1 (by omega) ?_ ?_
   ·exact hd [(20001,30)] rfl (aI (aI hwr rfl) trivial) ⟨trivial,⟨⟨rfl,rfl⟩,⟨rfl,rfl⟩,⟨rfl,rfl⟩,rfl,rfl,trivial⟩,trivial,⟨rfl,rfl,⟨rfl,rfl⟩,trivial⟩,⟨rfl,pR _⟩,⟨rfl,nP⟩,⟨rfl,nP⟩,⟨rfl,nP⟩,⟨rfl,nP⟩,trivial⟩
   ·show n-1<n-0;omega
  ·have hn0:n=0:=by have q2:decide ((0:Int)<(n:Nat)-((0:Nat):Int))=false:=q1;simp at q2;omega
   refine aI (by show xs.length+1≤_;omega) ?_;refine aI (by kernel_rfl) ?_;refine fin [(10004,39)] (aI ?_ ?_)
   ·show IntKind.i64.wrap (((xs++[_]).length:Nat)-1)=((xs.length:Nat):Int)∧IntKind.i64=IntKind.i64;rw[List.length_append,List.length_singleton,IntWalk.i64_in _ (by omega)];exact⟨by omega,rfl⟩
   ·refine⟨trivial,⟨rfl,rfl,⟨rfl,rfl⟩,trivial⟩,⟨?_,pR _⟩,⟨rfl,nP⟩,⟨rfl,nP⟩,trivial⟩;show xs++[(k,l,v,ds,[])]=xs++[bD k l v ds n];unfold bD;rw[hn0];rfl
 |succ j=>
  refine aI (fun q1=> ?_) (fun q1=> ?_)
  ·have hlt:j+1<n:=by have q2:decide ((0:Int)<(n:Nat)-((j+1:Nat):Int))=true:=q1;simp at q2;omega
   refine aI (by show(List.replicate (j+1) ((0:Int),(0:Int))).length+1≤1073741824;rw[List.length_replicate];omega) ?_;refine lp_next (j+2) (by omega) ?_ ?_
   ·refine hd [(20001,30)] rfl (aI (aI hwr rfl) trivial) ⟨trivial,⟨⟨rfl,rfl⟩,⟨rfl,rfl⟩,⟨rfl,rfl⟩,rfl,rfl,trivial⟩,trivial,⟨rfl,rfl,⟨rfl,rfl⟩,trivial⟩,⟨rfl,pR _⟩,⟨rfl,nP⟩,⟨rfl,nP⟩,⟨rfl,nP⟩,⟨?_,nP⟩,trivial⟩;show List.replicate (j+1) ((0:Int),(0:Int))++[(0,0)]=List.replicate (j+1+1) (0,0);rw[List.replicate_succ' (n:=j+1)]
   ·show n-(j+2)<n-(j+1);omega
  ·have hn0:n=j+1:=by have q2:decide ((0:Int)<(n:Nat)-((j+1:Nat):Int))=false:=q1;simp at q2;omega
   refine aI (by show xs.length+1≤_;omega) ?_;refine aI (by kernel_rfl) ?_;refine fin [(10004,39)] (aI ?_ ?_)
   ·show IntKind.i64.wrap (((xs++[_]).length:Nat)-1)=((xs.length:Nat):Int)∧IntKind.i64=IntKind.i64;rw[List.length_append,List.length_singleton,IntWalk.i64_in _ (by omega)];exact⟨by omega,rfl⟩
   ·refine⟨trivial,⟨rfl,rfl,⟨rfl,rfl⟩,trivial⟩,⟨?_,pR _⟩,⟨rfl,nP⟩,⟨rfl,nP⟩,trivial⟩;show xs++[(k,l,v,ds,List.replicate (j+1) (0,0))]=xs++[bD k l v ds n];unfold bD;rw[hn0]
theorem Pb:callOk Tryz.prog 187=true:=by kernel_rfl
theorem H6:callOk Tryz.prog 188=true:=by kernel_rfl
theorem Ta:callOk Tryz.prog 184=true:=by kernel_rfl
theorem Lr:callOk Tryz.prog 214=true:=by kernel_rfl
theorem Ox(x:NAgent):aR Tryz.prog 214 [.rp uAgent x] (.int .i64 (nT x)):=by
 refine aR.intro (nt:=14) ti_ok mixed Lr Tryz.func214 rfl rfl rfl rfl rfl ?_;refine aI (fun q1=> ?_) (fun q1=> ?_)
 ·refine⟨?_,rfl⟩;unfold nT;rw[show(x.1==9)=true from q1];rfl
 ·refine⟨?_,rfl⟩;unfold nT;rw[show(x.1==9)=false from q1];rfl
theorem Ow(xs:List NAgent)(us:List Value)(i:Int):FCall Tryz.prog 214 [.ep 10000 5 i 0] [.row 10000 150 5 uAgent xs us] (.int .i64 (nT (ah xs i))) [.row 10000 150 5 uAgent xs us]:=
 FCall.of_q ti_ok [0] Lr (Ox (ah xs i)) rfl
theorem ZC(xs:List NAgent)(us:List Value)(x y:Int)(hA:bG xs)(h0:ak xs (0,0))(hl:xs.length≤900000)(hx:0≤x∧x<(xs.length:Nat))(h1:ak xs (y,1))(hk:(ah xs y).1=7∨(ah xs y).1=8)(h2:(ah xs y).1=7→ak xs (y,2))(h3:(ah xs y).1≠7→0<(ah xs y).2.2.2.1.length)(hdd:(ah xs y).2.2.2.1.length≤1000000)(hp:(ah xs y).2.2.2.2.length≤1000):
  FCall Tryz.prog 187 [.ptr 10000 0,.int .i64 x,.int .i64 y] (tA xs us) (.tup []) (QX 10002 (bJ xs x y) us):=by
 have hy:0≤y∧y<(xs.length:Nat):=⟨h1.1,h1.2.1⟩;refine FCall.intro (nt:=64) ti_ok mixed Pb Tryz.func187 rfl rfl rfl rfl rfl rfl ?_;refine aI hy ?_;refine Or.inr (eI _ (eI _ (aI (zm xs us y (by omega) (by omega)) ?_)));refine aI hx ?_;refine aI (fun q1=> ?_) (fun q1=> ?_)
 ·have q8:(ah xs y).1=8:=by have q2:((ah xs y).1==8)=true:=q1;simpa using q2
  have q7:(ah xs y).1≠7:=by omega
  refine aI ⟨by decide,by have:=h3 q7;show(0:Int)<((ah xs y).2.2.2.1.length:Nat);omega⟩ ?_;refine Or.inl (eI _ (aI (Lu _ _ _) ?_));refine Or.inr (eI _ (eI _ (aI (uX xs us 6 0 (xG (ah xs y).2.2.1 (jC (ah xs y).2.2.2.1 0) (ah xs x).2.2.1) 1 (by omega) (by omega)) ?_)));refine aI (by kernel_rfl) ?_;have hA1:=hA.add h0 6 0 (xG (ah xs y).2.2.1 (jC (ah xs y).2.2.2.1 0) (ah xs x).2.2.1) [] 1;refine Or.inl (eI _ (aI (bV y 1) ?_));refine Or.inl (eI _ (aI (bV _ 0) ?_));refine Or.inr (eI _ (eI _ (aI (moveA _ us (y,1) ((xs.length:Nat),0) hA1 h1.app (ak.new (by decide) (by decide))) ?_)))
  refine fin [(10002,37)] (aI rfl ?_);refine⟨trivial,⟨rfl,trivial⟩,⟨?_,pR _⟩,trivial⟩;show _=bJ xs x y;unfold bJ;rw[show((ah xs y).1==7)=false by simpa using q7];rfl
 ·have q8:(ah xs y).1≠8:=by have q2:((ah xs y).1==8)=false:=q1;simpa using q2
  have q7:(ah xs y).1=7:=by omega
  refine Or.inr (eI _ (eI _ (aI (IW xs us 8 (ah xs y).2.1 (ah xs y).2.2.1 2 [(ah xs x).2.2.1] (by omega) (by omega) (by simp)) ?_)));have hA1:=hA.add h0 8 (ah xs y).2.1 (ah xs y).2.2.1 [(ah xs x).2.2.1] 2;refine Or.inl (eI _ (aI (bV y 1) ?_));refine Or.inl (eI _ (aI (bV _ 0) ?_));refine Or.inr (eI _ (eI _ (aI (moveA (xs++[bD 8 (ah xs y).2.1 (ah xs y).2.2.1 [(ah xs x).2.2.1] 2]) us (y,1) ((xs.length:Nat),0) hA1 h1.app (ak.new (by decide) (by decide))) ?_)));refine Or.inl (eI _ (aI (bV y 2) ?_));refine Or.inl (eI _ (aI (bV _ 1) ?_));refine Or.inr (eI _ (eI _ (aI (moveA _ us (y,2) ((xs.length:Nat),1) (hA1.move h1.app (ak.new (by decide) (by decide))) ((h2 q7).app.move) ((ak.new (by decide) (by decide)).move)) ?_)))
  refine fin [(10002,51)] (aI rfl ?_);refine⟨trivial,⟨rfl,trivial⟩,⟨?_,pR _⟩,trivial⟩;show _=bJ xs x y;unfold bJ;rw[show((ah xs y).1==7)=true by simpa using q7];rfl
theorem kE(xs:List NAgent)(us:List Value)(pk:Int)(tr:List Int)(x y:Int)(hA:bG xs)(h0:ak xs (0,0))(hl:xs.length≤900000)(hx:0≤x∧x<(xs.length:Nat))(h1:ak xs (y,1))(hk:(ah xs y).1=7∨(ah xs y).1=8)(h2:(ah xs y).1=7→ak xs (y,2))(h3:(ah xs y).1≠7→0<(ah xs y).2.2.2.1.length)(hdd:(ah xs y).2.2.2.1.length≤1000000)(hp:(ah xs y).2.2.2.2.length≤1000):
  FCall Tryz.prog 187 [.ptr 10000 0,.int .i64 x,.int .i64 y] (tB xs us pk tr) (.tup []) (QY 10003 (bJ xs x y) us pk tr):=by
 have hy:0≤y∧y<(xs.length:Nat):=⟨h1.1,h1.2.1⟩;refine FCall.intro (nt:=64) ti_ok mixed Pb Tryz.func187 rfl rfl rfl rfl rfl rfl ?_;refine aI hy ?_;refine Or.inr (eI _ (eI _ (aI (zm xs us y (by omega) (by omega)) ?_)));refine aI hx ?_;refine aI (fun q1=> ?_) (fun q1=> ?_)
 ·have q8:(ah xs y).1=8:=by have q2:((ah xs y).1==8)=true:=q1;simpa using q2
  have q7:(ah xs y).1≠7:=by omega
  refine aI ⟨by decide,by have:=h3 q7;show(0:Int)<((ah xs y).2.2.2.1.length:Nat);omega⟩ ?_;refine Or.inl (eI _ (aI (Lu _ _ _) ?_));refine Or.inr (eI _ (eI _ (aI (uY xs us pk tr 6 0 (xG (ah xs y).2.2.1 (jC (ah xs y).2.2.2.1 0) (ah xs x).2.2.1) 1 (by omega) (by omega)) ?_)));refine aI (by kernel_rfl) ?_;have hA1:=hA.add h0 6 0 (xG (ah xs y).2.2.1 (jC (ah xs y).2.2.2.1 0) (ah xs x).2.2.1) [] 1;refine Or.inl (eI _ (aI (bV y 1) ?_));refine Or.inl (eI _ (aI (bV _ 0) ?_));refine Or.inr (eI _ (eI _ (aI (moveB _ us pk tr (y,1) ((xs.length:Nat),0) hA1 h1.app (ak.new (by decide) (by decide))) ?_)))
  refine fin [(10003,37)] (aI rfl ?_);refine⟨trivial,⟨rfl,rfl,⟨rfl,rfl⟩,trivial⟩,⟨?_,pR _⟩,⟨rfl,nP⟩,trivial⟩;show _=bJ xs x y;unfold bJ;rw[show((ah xs y).1==7)=false by simpa using q7];rfl
 ·have q8:(ah xs y).1≠8:=by have q2:((ah xs y).1==8)=false:=q1;simpa using q2
  have q7:(ah xs y).1=7:=by omega
  refine Or.inr (eI _ (eI _ (aI (IY xs us pk tr 8 (ah xs y).2.1 (ah xs y).2.2.1 2 [(ah xs x).2.2.1] (by omega) (by omega) (by simp)) ?_)));have hA1:=hA.add h0 8 (ah xs y).2.1 (ah xs y).2.2.1 [(ah xs x).2.2.1] 2;refine Or.inl (eI _ (aI (bV y 1) ?_));refine Or.inl (eI _ (aI (bV _ 0) ?_));refine Or.inr (eI _ (eI _ (aI (moveB (xs++[bD 8 (ah xs y).2.1 (ah xs y).2.2.1 [(ah xs x).2.2.1] 2]) us pk tr (y,1) ((xs.length:Nat),0) hA1 h1.app (ak.new (by decide) (by decide))) ?_)));refine Or.inl (eI _ (aI (bV y 2) ?_));refine Or.inl (eI _ (aI (bV _ 1) ?_))
  refine Or.inr (eI _ (eI _ (aI (moveB _ us pk tr (y,2) ((xs.length:Nat),1) (hA1.move h1.app (ak.new (by decide) (by decide))) ((h2 q7).app.move) ((ak.new (by decide) (by decide)).move)) ?_)));refine fin [(10003,51)] (aI rfl ?_);refine⟨trivial,⟨rfl,rfl,⟨rfl,rfl⟩,trivial⟩,⟨?_,pR _⟩,⟨rfl,nP⟩,trivial⟩;show _=bJ xs x y;unfold bJ;rw[show((ah xs y).1==7)=true by simpa using q7];rfl
theorem Vk(xs:List NAgent)(us:List Value)(x y:Int)(hA:bG xs)(h0:ak xs (0,0))(hl:xs.length≤900000)(hx:0≤x∧x<(xs.length:Nat))(hy1:ak xs (y,1))(h6:(ah xs y).1=11→(ah xs y).2.2.2.1.length=2)(hc:(ah xs y).1≠11→0≤(ah xs x).2.2.1∧(ah xs x).2.2.1<((ah xs y).2.2.2.1.length:Nat)∧(ah xs x).1=9)(hp:(ah xs x).2.2.2.2.length≤1000)(hp0:0<(ah xs x).2.2.2.2.length)(hdd:(ah xs y).2.2.2.1.length≤1000000)(hpy:(ah xs y).2.2.2.2.length≤1000):
  FCall Tryz.prog 188 [.ptr 10000 0,.int .i64 x,.int .i64 y] (tA xs us) (.tup []) (QX 10002 (dL xs x y) us):=by
 have hy:0≤y∧y<(xs.length:Nat):=⟨hy1.1,hy1.2.1⟩;refine FCall.intro (nt:=105) ti_ok mixed H6 Tryz.func188 rfl rfl rfl rfl rfl rfl ?_;refine aI hy ?_;refine Or.inr (eI _ (eI _ (aI (zm xs us y (by omega) (by omega)) ?_)));refine aI (fun q1=> ?_) (fun q1=> ?_)
 ·have q2:(ah xs y).1=11:=by have q2:((ah xs y).1==11)=true:=q1;simpa using q2
  have hl2:=h6 q2;refine aI ⟨by decide,by show(1:Int)<((ah xs y).2.2.2.1.length:Nat);omega⟩ ?_;refine aI hx ?_;refine aI (fun q3=> ?_) (fun q3=> ?_)
  ·have q4:((ah xs x).2.2.1==0)=false:=by have q4:((ah xs x).2.2.1 !=0)=true:=q3;simpa[bne]using q4
   refine aI ⟨by decide,by show(0:Int)<((ah xs y).2.2.2.1.length:Nat);omega⟩ ?_;refine Or.inr (eI _ (eI _ (aI (uX xs us 12 (ah xs y).2.1 (jC (ah xs y).2.2.2.1 0) 1 (by omega) (by omega)) ?_)));have hA1:=hA.add h0 12 (ah xs y).2.1 (jC (ah xs y).2.2.2.1 0) [] 1;refine Or.inl (eI _ (aI (bV y 1) ?_));refine Or.inl (eI _ (aI (bV _ 0) ?_));refine Or.inr (eI _ (eI _ (aI (moveA _ us (y,1) ((xs.length:Nat),0) hA1 hy1.app (ak.new (by decide) (by decide))) ?_)));refine fin [(10002,45)] (aI rfl ?_);refine⟨trivial,⟨rfl,trivial⟩,⟨?_,pR _⟩,trivial⟩;show _=dL xs x y
   unfold dL;rw[show((ah xs y).1==11)=true from q1,q4];rfl
  ·have q4:((ah xs x).2.2.1==0)=true:=by have q4:((ah xs x).2.2.1 !=0)=false:=q3;simpa[bne]using q4
   refine Or.inr (eI _ (eI _ (aI (uX xs us 12 (ah xs y).2.1 (jC (ah xs y).2.2.2.1 1) 1 (by omega) (by omega)) ?_)));have hA1:=hA.add h0 12 (ah xs y).2.1 (jC (ah xs y).2.2.2.1 1) [] 1;refine Or.inl (eI _ (aI (bV y 1) ?_));refine Or.inl (eI _ (aI (bV _ 0) ?_));refine Or.inr (eI _ (eI _ (aI (moveA _ us (y,1) ((xs.length:Nat),0) hA1 hy1.app (ak.new (by decide) (by decide))) ?_)));refine fin [(10002,45)] (aI rfl ?_);refine⟨trivial,⟨rfl,trivial⟩,⟨?_,pR _⟩,trivial⟩;show _=dL xs x y;unfold dL;rw[show((ah xs y).1==11)=true from q1,q4];rfl
 ·have q2:(ah xs y).1≠11:=by have q2:((ah xs y).1==11)=false:=q1;simpa using q2
  obtain⟨v0,v1,k9⟩:=hc q2
  have hf:nT (ah xs x)=((((ah xs x).2.2.2.2.length-1):Nat):Int):=by
   unfold nT;rw[show((ah xs x).1==9)=true by simpa using k9,cond_true,IntWalk.i64_in _ (by omega)];omega
  have hfe:=Ow xs us x;rw[hf]at hfe;refine aI hx ?_;refine Or.inr (eI _ (eI _ (aI hfe ?_)));refine aI hx ?_;refine aI ⟨v0,v1⟩ ?_;refine Or.inr (eI _ (eI _ (aI (uX xs us 12 (ah xs y).2.1 (jC (ah xs y).2.2.2.1 (ah xs x).2.2.1) 1 (by omega) (by omega)) ?_)));refine aI (by kernel_rfl) ?_;refine Or.inl (eI _ (aI (bV _ 0) ?_));have h1A:bG (bF xs y (ah xs x).2.2.1):=hA.add h0 _ _ _ _ _;have h1l:(bF xs y (ah xs x).2.2.1).length=xs.length+1:=qV _ _ _;have h1R:ak (bF xs y (ah xs x).2.2.1) (jk (bF xs y (ah xs x).2.2.1).length 0):=by rw[h1l];exact ak.new (by decide) (by decide)
  have h1:∀{p},ak xs p→ak (bF xs y (ah xs x).2.2.1) p:=fun h=>h.app
  have hxi:∀i:Nat,i<((ah xs x).2.2.2.2.length-1)→ak (bF xs y (ah xs x).2.2.1) (x,((i+1:Nat):Int)):=fun i hi=>h1 ⟨hx.1,hx.2,by omega,by show((i+1:Nat):Int)<((ah xs x).2.2.2.2.length:Nat);omega⟩
  refine lp Nat (fun k=>[(12,.int .i64 ((k+1:Nat):Int))])
   (fun k=>[.cel 6 150 [.int .i64 (ah xs y).1,.int .i64 (ah xs y).2.1,.int .i64 (ah xs y).2.2.1,.sl 20,.sl 1000020],.cel 11 104 [.int .i64 (jk (xs.length+1) k).1,.int .i64 (jk (xs.length+1) k).2],.cel 10000 36 [.sl 20000],.row 20000 150 5 uAgent (p8 (ah xs y).2.1 x (xs.length+1) (bF xs y (ah xs x).2.2.1) k) us]) (fun k=>((ah xs x).2.2.2.2.length-1)-k) (fun k=>k≤((ah xs x).2.2.2.2.length-1)) 0 (Nat.zero_le _) ?_ ?_
  ·exact hd [(20000,74)] rfl (aI (aI rfl rfl) trivial) ⟨trivial,⟨⟨rfl,rfl⟩,⟨rfl,rfl⟩,⟨rfl,rfl⟩,rfl,rfl,trivial⟩,trivial,⟨⟨rfl,rfl⟩,⟨rfl,rfl⟩,trivial⟩,trivial,⟨rfl,trivial⟩,⟨rfl,pR _⟩,trivial⟩
  intro k hk;have hcl:(p8 (ah xs y).2.1 x (xs.length+1) (bF xs y (ah xs x).2.2.1) k).length=xs.length+1+k:=by rw[qD,h1l]
  refine aI (fun q3=> ?_) (fun q3=> ?_)
  ·have hlt:k<((ah xs x).2.2.2.2.length-1):=by
    have q4:decide (((k+1:Nat):Int)≤((((ah xs x).2.2.2.2.length-1):Nat):Int))=true:=q3;simp only[decide_eq_true_eq]at q4;omega
   have hadd:=uX (p8 (ah xs y).2.1 x (xs.length+1) (bF xs y (ah xs x).2.2.1) k) us 3 (ah xs y).2.1 0 3 (by rw[hcl];omega) (by omega);rw[hcl]at hadd;refine Or.inr (eI _ (eI _ (aI hadd ?_)))
   have hnew:∀s:Int,0≤s→s<3→ak ((p8 (ah xs y).2.1 x (xs.length+1) (bF xs y (ah xs x).2.2.1) k)++[bD 3 (ah xs y).2.1 0 [] 3]) (((xs.length+1+k:Nat):Int),s):=fun s h0 h1=>by
    have:=vk (lv:=(ah xs y).2.1) (x:=x) (xs:=(bF xs y (ah xs x).2.2.1)) k h0 h1;rw[h1l]at this;exact this
   have hR:=wS (lv:=(ah xs y).2.1) (x:=x) h1R k;rw[h1l]at hR;have hAk:=vo (lv:=(ah xs y).2.1) (x:=x) h1A (h1 h0) h1R k fun i hi=>hxi i (by omega)
   rw[h1l]at hAk;refine Or.inl (eI _ (aI (bV _ 0) ?_));refine Or.inr (eI _ (eI _ (aI (Ht ((p8 (ah xs y).2.1 x (xs.length+1) (bF xs y (ah xs x).2.2.1) k)++[bD 3 (ah xs y).2.1 0 [] 3]) us (jk (xs.length+1) k) (((xs.length+1+k:Nat):Int),0) hR.app (hnew 0 (by decide) (by decide))) ?_)));refine aI (by kernel_rfl) ?_;refine Or.inl (eI _ (aI (bV x _) ?_));refine Or.inl (eI _ (aI (bV _ 1) ?_));refine Or.inr (eI _ (eI _ (aI (moveA (bQ ((p8 (ah xs y).2.1 x (xs.length+1) (bF xs y (ah xs x).2.2.1) k)++[bD 3 (ah xs y).2.1 0 [] 3]) (jk (xs.length+1) k) (((xs.length+1+k:Nat):Int),0)) us (x,((k+1:Nat):Int)) (((xs.length+1+k:Nat):Int),1) ((hAk.add (nN (h1 h0) k) _ _ _ _ _).link hR.app (hnew 0 (by decide) (by decide))) (nN (hxi k hlt) k).app.link (hnew 1 (by decide) (by decide)).link) ?_)))
   refine Or.inl (eI _ (aI (bV _ 2) ?_));refine lp_next (k+1) (by omega) ?_ ?_
   ·exact hd [(20000,85)] rfl (aI (aI (wrapS (by omega)) rfl) trivial) ⟨trivial,⟨⟨rfl,rfl⟩,⟨rfl,rfl⟩,⟨rfl,rfl⟩,rfl,rfl,trivial⟩,trivial,⟨⟨rfl,rfl⟩,⟨rfl,rfl⟩,trivial⟩,trivial,⟨rfl,trivial⟩,⟨rfl,pR _⟩,trivial⟩
   ·show((ah xs x).2.2.2.2.length-1)-(k+1)<((ah xs x).2.2.2.2.length-1)-k;omega
  ·have hke:k=((ah xs x).2.2.2.2.length-1):=by
    have q4:decide (((k+1:Nat):Int)≤((((ah xs x).2.2.2.2.length-1):Nat):Int))=false:=q3;simp only[decide_eq_false_iff_not]at q4;omega
   have hR:=wS (lv:=(ah xs y).2.1) (x:=x) h1R k;rw[h1l]at hR;have hAk:=vo (lv:=(ah xs y).2.1) (x:=x) h1A (h1 h0) h1R k fun i hi=>hxi i (by omega)
   rw[h1l]at hAk;refine Or.inl (eI _ (aI (bV y 1) ?_));refine Or.inr (eI _ (eI _ (aI (moveA (p8 (ah xs y).2.1 x (xs.length+1) (bF xs y (ah xs x).2.2.1) k) us (y,1) (jk (xs.length+1) k) hAk (nN (h1 hy1) k) hR) ?_)));refine aI (by kernel_rfl) ?_;refine fin [(10002,20000)] (aI rfl ?_);refine⟨trivial,⟨rfl,trivial⟩,⟨?_,pR _⟩,trivial⟩;show dN (p8 (ah xs y).2.1 x (xs.length+1) (bF xs y (ah xs x).2.2.1) k) (y,1) (jk (xs.length+1) k)=dL xs x y;unfold dL;rw[show((ah xs y).1==11)=false from q1,hke];rfl
theorem Vl(xs:List NAgent)(us:List Value)(pk:Int)(tr:List Int)(x y:Int)(hA:bG xs)(h0:ak xs (0,0))(hl:xs.length≤900000)(hx:0≤x∧x<(xs.length:Nat))(hy1:ak xs (y,1))(h6:(ah xs y).1=11→(ah xs y).2.2.2.1.length=2)(hc:(ah xs y).1≠11→0≤(ah xs x).2.2.1∧(ah xs x).2.2.1<((ah xs y).2.2.2.1.length:Nat)∧(ah xs x).1=9)(hp:(ah xs x).2.2.2.2.length≤1000)(hp0:0<(ah xs x).2.2.2.2.length)(hdd:(ah xs y).2.2.2.1.length≤1000000)(hpy:(ah xs y).2.2.2.2.length≤1000):
  FCall Tryz.prog 188 [.ptr 10000 0,.int .i64 x,.int .i64 y] (tB xs us pk tr) (.tup []) (QY 10003 (dL xs x y) us pk tr):=by
 have hy:0≤y∧y<(xs.length:Nat):=⟨hy1.1,hy1.2.1⟩;refine FCall.intro (nt:=105) ti_ok mixed H6 Tryz.func188 rfl rfl rfl rfl rfl rfl ?_;refine aI hy ?_;refine Or.inr (eI _ (eI _ (aI (zm xs us y (by omega) (by omega)) ?_)));refine aI (fun q1=> ?_) (fun q1=> ?_)
 ·have q2:(ah xs y).1=11:=by have q2:((ah xs y).1==11)=true:=q1;simpa using q2
  have hl2:=h6 q2;refine aI ⟨by decide,by show(1:Int)<((ah xs y).2.2.2.1.length:Nat);omega⟩ ?_;refine aI hx ?_;refine aI (fun q3=> ?_) (fun q3=> ?_)
  ·have q4:((ah xs x).2.2.1==0)=false:=by have q4:((ah xs x).2.2.1 !=0)=true:=q3;simpa[bne]using q4
   refine aI ⟨by decide,by show(0:Int)<((ah xs y).2.2.2.1.length:Nat);omega⟩ ?_;refine Or.inr (eI _ (eI _ (aI (uY xs us pk tr 12 (ah xs y).2.1 (jC (ah xs y).2.2.2.1 0) 1 (by omega) (by omega)) ?_)));have hA1:=hA.add h0 12 (ah xs y).2.1 (jC (ah xs y).2.2.2.1 0) [] 1;refine Or.inl (eI _ (aI (bV y 1) ?_));refine Or.inl (eI _ (aI (bV _ 0) ?_));refine Or.inr (eI _ (eI _ (aI (moveB _ us pk tr (y,1) ((xs.length:Nat),0) hA1 hy1.app (ak.new (by decide) (by decide))) ?_)));refine fin [(10003,45)] (aI rfl ?_);refine⟨trivial,⟨rfl,rfl,⟨rfl,rfl⟩,trivial⟩,⟨?_,pR _⟩,⟨rfl,nP⟩,trivial⟩
   show _=dL xs x y;unfold dL;rw[show((ah xs y).1==11)=true from q1,q4];rfl
  ·have q4:((ah xs x).2.2.1==0)=true:=by have q4:((ah xs x).2.2.1 !=0)=false:=q3;simpa[bne]using q4
   refine Or.inr (eI _ (eI _ (aI (uY xs us pk tr 12 (ah xs y).2.1 (jC (ah xs y).2.2.2.1 1) 1 (by omega) (by omega)) ?_)));have hA1:=hA.add h0 12 (ah xs y).2.1 (jC (ah xs y).2.2.2.1 1) [] 1;refine Or.inl (eI _ (aI (bV y 1) ?_));refine Or.inl (eI _ (aI (bV _ 0) ?_));refine Or.inr (eI _ (eI _ (aI (moveB _ us pk tr (y,1) ((xs.length:Nat),0) hA1 hy1.app (ak.new (by decide) (by decide))) ?_)));refine fin [(10003,45)] (aI rfl ?_);refine⟨trivial,⟨rfl,rfl,⟨rfl,rfl⟩,trivial⟩,⟨?_,pR _⟩,⟨rfl,nP⟩,trivial⟩;show _=dL xs x y;unfold dL;rw[show((ah xs y).1==11)=true from q1,q4];rfl
 ·have q2:(ah xs y).1≠11:=by have q2:((ah xs y).1==11)=false:=q1;simpa using q2
  obtain⟨v0,v1,k9⟩:=hc q2
  have hf:nT (ah xs x)=((((ah xs x).2.2.2.2.length-1):Nat):Int):=by
   unfold nT;rw[show((ah xs x).1==9)=true by simpa using k9,cond_true,IntWalk.i64_in _ (by omega)];omega
  have hfe:=Ow xs us x;rw[hf]at hfe;refine aI hx ?_;refine Or.inr (eI _ (eI _ (aI hfe ?_)));refine aI hx ?_;refine aI ⟨v0,v1⟩ ?_;refine Or.inr (eI _ (eI _ (aI (uY xs us pk tr 12 (ah xs y).2.1 (jC (ah xs y).2.2.2.1 (ah xs x).2.2.1) 1 (by omega) (by omega)) ?_)));refine aI (by kernel_rfl) ?_;refine Or.inl (eI _ (aI (bV _ 0) ?_));have h1A:bG (bF xs y (ah xs x).2.2.1):=hA.add h0 _ _ _ _ _;have h1l:(bF xs y (ah xs x).2.2.1).length=xs.length+1:=qV _ _ _;have h1R:ak (bF xs y (ah xs x).2.2.1) (jk (bF xs y (ah xs x).2.2.1).length 0):=by rw[h1l];exact ak.new (by decide) (by decide)
  have h1:∀{p},ak xs p→ak (bF xs y (ah xs x).2.2.1) p:=fun h=>h.app
  have hxi:∀i:Nat,i<((ah xs x).2.2.2.2.length-1)→ak (bF xs y (ah xs x).2.2.1) (x,((i+1:Nat):Int)):=fun i hi=>h1 ⟨hx.1,hx.2,by omega,by show((i+1:Nat):Int)<((ah xs x).2.2.2.2.length:Nat);omega⟩
  refine lp Nat (fun k=>[(12,.int .i64 ((k+1:Nat):Int))])
   (fun k=>[.cel 6 150 [.int .i64 (ah xs y).1,.int .i64 (ah xs y).2.1,.int .i64 (ah xs y).2.2.1,.sl 20,.sl 1000020],.cel 11 104 [.int .i64 (jk (xs.length+1) k).1,.int .i64 (jk (xs.length+1) k).2],.cel 10000 124 [.sl 20000,.sl 10002,.int .i64 pk],.row 20000 150 5 uAgent (p8 (ah xs y).2.1 x (xs.length+1) (bF xs y (ah xs x).2.2.1) k) us,.row 10002 2 1 (.int .i64) tr []]) (fun k=>((ah xs x).2.2.2.2.length-1)-k) (fun k=>k≤((ah xs x).2.2.2.2.length-1)) 0 (Nat.zero_le _) ?_ ?_
  ·exact hd [(20000,74)] rfl (aI (aI rfl rfl) trivial) ⟨trivial,⟨⟨rfl,rfl⟩,⟨rfl,rfl⟩,⟨rfl,rfl⟩,rfl,rfl,trivial⟩,trivial,⟨⟨rfl,rfl⟩,⟨rfl,rfl⟩,trivial⟩,trivial,⟨rfl,rfl,⟨rfl,rfl⟩,trivial⟩,⟨rfl,pR _⟩,⟨rfl,nP⟩,trivial⟩
  intro k hk;have hcl:(p8 (ah xs y).2.1 x (xs.length+1) (bF xs y (ah xs x).2.2.1) k).length=xs.length+1+k:=by rw[qD,h1l]
  refine aI (fun q3=> ?_) (fun q3=> ?_)
  ·have hlt:k<((ah xs x).2.2.2.2.length-1):=by
    have q4:decide (((k+1:Nat):Int)≤((((ah xs x).2.2.2.2.length-1):Nat):Int))=true:=q3;simp only[decide_eq_true_eq]at q4;omega
   have hadd:=uY (p8 (ah xs y).2.1 x (xs.length+1) (bF xs y (ah xs x).2.2.1) k) us pk tr 3 (ah xs y).2.1 0 3 (by rw[hcl];omega) (by omega);rw[hcl]at hadd;refine Or.inr (eI _ (eI _ (aI hadd ?_)))
   have hnew:∀s:Int,0≤s→s<3→ak ((p8 (ah xs y).2.1 x (xs.length+1) (bF xs y (ah xs x).2.2.1) k)++[bD 3 (ah xs y).2.1 0 [] 3]) (((xs.length+1+k:Nat):Int),s):=fun s h0 h1=>by
    have:=vk (lv:=(ah xs y).2.1) (x:=x) (xs:=(bF xs y (ah xs x).2.2.1)) k h0 h1;rw[h1l]at this;exact this
   have hR:=wS (lv:=(ah xs y).2.1) (x:=x) h1R k;rw[h1l]at hR;have hAk:=vo (lv:=(ah xs y).2.1) (x:=x) h1A (h1 h0) h1R k fun i hi=>hxi i (by omega)
   rw[h1l]at hAk;refine Or.inl (eI _ (aI (bV _ 0) ?_));refine Or.inr (eI _ (eI _ (aI (Hu ((p8 (ah xs y).2.1 x (xs.length+1) (bF xs y (ah xs x).2.2.1) k)++[bD 3 (ah xs y).2.1 0 [] 3]) us pk tr (jk (xs.length+1) k) (((xs.length+1+k:Nat):Int),0) hR.app (hnew 0 (by decide) (by decide))) ?_)));refine aI (by kernel_rfl) ?_;refine Or.inl (eI _ (aI (bV x _) ?_));refine Or.inl (eI _ (aI (bV _ 1) ?_));refine Or.inr (eI _ (eI _ (aI (moveB (bQ ((p8 (ah xs y).2.1 x (xs.length+1) (bF xs y (ah xs x).2.2.1) k)++[bD 3 (ah xs y).2.1 0 [] 3]) (jk (xs.length+1) k) (((xs.length+1+k:Nat):Int),0)) us pk tr (x,((k+1:Nat):Int)) (((xs.length+1+k:Nat):Int),1) ((hAk.add (nN (h1 h0) k) _ _ _ _ _).link hR.app (hnew 0 (by decide) (by decide))) (nN (hxi k hlt) k).app.link (hnew 1 (by decide) (by decide)).link) ?_)))
   refine Or.inl (eI _ (aI (bV _ 2) ?_));refine lp_next (k+1) (by omega) ?_ ?_
   ·exact hd [(20000,85)] rfl (aI (aI (wrapS (by omega)) rfl) trivial) ⟨trivial,⟨⟨rfl,rfl⟩,⟨rfl,rfl⟩,⟨rfl,rfl⟩,rfl,rfl,trivial⟩,trivial,⟨⟨rfl,rfl⟩,⟨rfl,rfl⟩,trivial⟩,trivial,⟨rfl,rfl,⟨rfl,rfl⟩,trivial⟩,⟨rfl,pR _⟩,⟨rfl,nP⟩,trivial⟩
   ·show((ah xs x).2.2.2.2.length-1)-(k+1)<((ah xs x).2.2.2.2.length-1)-k;omega
  ·have hke:k=((ah xs x).2.2.2.2.length-1):=by
    have q4:decide (((k+1:Nat):Int)≤((((ah xs x).2.2.2.2.length-1):Nat):Int))=false:=q3;simp only[decide_eq_false_iff_not]at q4;omega
   have hR:=wS (lv:=(ah xs y).2.1) (x:=x) h1R k;rw[h1l]at hR;have hAk:=vo (lv:=(ah xs y).2.1) (x:=x) h1A (h1 h0) h1R k fun i hi=>hxi i (by omega)
   rw[h1l]at hAk;refine Or.inl (eI _ (aI (bV y 1) ?_));refine Or.inr (eI _ (eI _ (aI (moveB (p8 (ah xs y).2.1 x (xs.length+1) (bF xs y (ah xs x).2.2.1) k) us pk tr (y,1) (jk (xs.length+1) k) hAk (nN (h1 hy1) k) hR) ?_)));refine aI (by kernel_rfl) ?_;refine fin [(10003,20000)] (aI rfl ?_);refine⟨trivial,⟨rfl,rfl,⟨rfl,rfl⟩,trivial⟩,⟨?_,pR _⟩,⟨rfl,nP⟩,trivial⟩;show dN (p8 (ah xs y).2.1 x (xs.length+1) (bF xs y (ah xs x).2.2.1) k) (y,1) (jk (xs.length+1) k)=dL xs x y;unfold dL;rw[show((ah xs y).1==11)=false from q1,hke];rfl
theorem Lm:callOk Tryz.prog 125=true:=by kernel_rfl
theorem Rp(x y:NAgent):aR Tryz.prog 125 [.rp uAgent x,.rp uAgent y] (.int .i64 (bP x y)):=by
 refine aR.intro (nt:=70) ti_ok mixed Lm Tryz.func125 rfl rfl rfl rfl rfl ?_;refine aI (by kernel_rfl) ?_;refine aI (fun q1=> ?_) (fun q1=> ?_)
 ·refine⟨?_,rfl⟩;unfold bP;rw[show iJ x y=true from q1];rfl
 refine aI (by kernel_rfl) ?_;refine aI (fun q2=> ?_) (fun q2=> ?_)
 ·refine⟨?_,rfl⟩;unfold bP;rw[show iJ x y=false from q1,show nO x y=true from q2];rfl
 refine Or.inl (eI _ (aI (Ng _ _ _ _) ?_));refine aI (by kernel_rfl) ?_;refine⟨?_,rfl⟩;unfold bP;rw[show iJ x y=false from q1,show nO x y=false from q2];rfl
theorem classE(xs:List NAgent)(us:List Value)(i j:Int):FCall Tryz.prog 125 [.ep 10000 5 i 0,.ep 10000 5 j 0] [.row 10000 150 5 uAgent xs us] (.int .i64 (bP (ah xs i) (ah xs j))) [.row 10000 150 5 uAgent xs us]:=
 FCall.of_q ti_ok [0,0] Lm (Rp (ah xs i) (ah xs j)) rfl
theorem okFirstS:callOk Tryz.prog 165=true:=by kernel_rfl
theorem firstQ(xs:List NAgent)(a b:Int)(ha:0≤a∧a<(xs.length:Nat))(hb:0≤b∧b<(xs.length:Nat)):aR Tryz.prog 165 [.rp uNet xs,.int .i64 a,.int .i64 b] (.tup [.int .i64 (firstS xs a b).1,.int .i64 (firstS xs a b).2]):=by
 refine aR.intro (nt:=44) ti_ok mixed okFirstS Tryz.func165 rfl rfl rfl rfl rfl ?_;refine aI ha ?_;refine aI hb ?_;refine Or.inl (eI _ (aI (RN _ _ _ _) ?_));refine aI (by kernel_rfl) ?_;refine aI (fun q1=> ?_) (fun q1=> ?_)
 ·have e:firstS xs a b=(b,a):=by unfold firstS;rw[show(bn (ah xs a).1 (ah xs a).2.1 (ah xs b).1 (ah xs b).2.1==2)=true from q1];rfl
  rw[e];exact rfl
 ·have e:firstS xs a b=(a,b):=by unfold firstS;rw[show(bn (ah xs a).1 (ah xs a).2.1 (ah xs b).1 (ah xs b).2.1==2)=false from q1];rfl
  rw[e];exact rfl
theorem maxS(a b:Int):aR Tryz.prog 110 [.int .i64 a,.int .i64 b] (.int .i64 (BK a b)):=by
 refine aR.intro (nt:=10) ti_ok mixed (by kernel_rfl) Tryz.func110 rfl rfl rfl rfl rfl ?_;refine aI (fun q1=> ?_) (fun q1=> ?_)
 ·refine⟨?_,rfl⟩;unfold BK;rw[show decide (b<a)=true from q1];rfl
 ·refine⟨?_,rfl⟩;unfold BK;rw[show decide (b<a)=false from q1];rfl
theorem Zt(t:List NAgent)(hl:t.length≤2000000):aR Tryz.prog 215 [.rp uNet t] (.int .i64 (mH t t.length)):=by
 refine aR.intro (nt:=25) ti_ok mixed (by kernel_rfl) Tryz.func215 rfl rfl rfl rfl rfl ?_;refine lp Nat (fun k=>[(4,.int .i64 (k:Nat)),(3,.int .i64 (mH t k))]) (fun _=>[]) (fun k=>t.length-k) (fun k=>k≤t.length) 0 (Nat.zero_le _) ?_ ?_
 ·exact hd [] rfl (aI (aI rfl rfl) (aI (aI rfl rfl) trivial)) trivial
 intro k hk;refine aI (fun q1=> ?_) (fun q1=> ?_)
 ·have hlt:k<t.length:=by simpa using q1
  refine aI (show 0≤((k:Nat):Int)∧((k:Nat):Int)<(t.length:Nat) by omega) ?_;refine Or.inl (eI _ (aI (maxS _ _) ?_));refine lp_next (k+1) hlt ?_ ?_
  ·exact hd [] rfl (aI (aI (wrapS (by omega)) rfl) (aI (aI rfl rfl) trivial)) trivial
  ·show t.length-(k+1)<t.length-k;omega
 ·have hge:t.length≤k:=by simpa using q1
  have hke:k=t.length:=by omega
  subst hke;exact⟨rfl,rfl⟩
theorem okLive:callOk Tryz.prog 149=true:=by kernel_rfl
theorem liveQ(t:List NAgent)(hl:t.length≤1000000):aR Tryz.prog 149 [.rp uNet t] (.int .i64 (bU t t.length:Nat)):=by
 refine aR.intro (nt:=26) ti_ok mixed okLive Tryz.func149 rfl rfl rfl rfl rfl ?_;refine lp Nat (fun k=>[(4,.int .i64 (k:Nat)),(3,.int .i64 (bU t k:Nat))]) (fun _=>[]) (fun k=>t.length-k) (fun k=>k≤t.length) 0 (Nat.zero_le _) ?_ ?_
 ·exact hd [] rfl (aI (aI rfl rfl) (aI (aI rfl rfl) trivial)) trivial
 intro k hk;refine aI (fun q1=> ?_) (fun q1=> ?_)
 ·have hlt:k<t.length:=by simpa using q1
  have hle:=uH t k;refine aI (show 0≤((k:Nat):Int)∧((k:Nat):Int)<(t.length:Nat) by omega) ?_;refine aI (fun q2=> ?_) (fun q2=> ?_)
  ·refine lp_next (k+1) hlt ?_ ?_
   ·refine hd [] rfl (aI (aI (wrapS (by omega)) rfl) (aI (aI ?_ rfl) trivial)) trivial;show IntKind.i64.wrap ((bU t k:Nat)+1)=((bU t (k+1):Nat):Int);rw[wrapS (by omega)];rw[show bU t (k+1)=(bif (ah t (k:Nat)).1 !=0 then bU t k+1 else bU t k) from rfl,show((ah t (k:Nat)).1 !=0)=true from q2];rfl
   ·show t.length-(k+1)<t.length-k;omega
  ·refine lp_next (k+1) hlt ?_ ?_
   ·refine hd [] rfl (aI (aI (wrapS (by omega)) rfl) (aI (aI ?_ rfl) trivial)) trivial;show((bU t k:Nat):Int)=((bU t (k+1):Nat):Int);rw[show bU t (k+1)=(bif (ah t (k:Nat)).1 !=0 then bU t k+1 else bU t k) from rfl,show((ah t (k:Nat)).1 !=0)=false from q2];rfl
   ·show t.length-(k+1)<t.length-k;omega
 ·have hge:t.length≤k:=by simpa using q1
  have hke:k=t.length:=by omega
  subst hke;exact⟨rfl,rfl⟩
theorem uD{p lo hi d:Int}(h:inB p lo hi=true):kD p lo hi d=(IntKind.i64.wrap (p+d),0):=by
 obtain⟨h1,h2⟩:=jY h;unfold kD;rw[show decide (p<lo)=false by simpa using h1,show decide (hi<p)=false by simpa using h2];rfl
theorem Sb{p lo hi d:Int}(h:inB p lo hi=false):kD p lo hi d=(0,2):=by
 rcases Sl h with h1|h1
 ·unfold kD;rw[show decide (p<lo)=true by simpa using h1];rfl
 ·unfold kD;rw[show decide (hi<p)=true by simpa using h1];cases decide (p<lo)<;>rfl
theorem Am(c p:Int):aR Tryz.prog 216 [.int .i64 c,.int .i64 p] (.tup [.int .i64 (dS c p).1,.int .i64 (dS c p).2]):=by
 have leafT:∀{lo hi d v:Int},dS c p=kD p lo hi d→(inB p lo hi=true→v=IntKind.i64.wrap (p+d))→∀q:(!(inB p lo hi))=false,(SV.tup [.int .i64 v,.int .i64 0]:SV)=.tup [.int .i64 (dS c p).1,.int .i64 (dS c p).2]:=fun {lo hi d v} e hv q=>by
  have h:inB p lo hi=true:=by simpa using q
  rw[e,uD h,hv h]
 have leafF:∀{lo hi d:Int},dS c p=kD p lo hi d→∀q:(!(inB p lo hi))=true,(SV.tup [.int .i64 0,.int .i64 2]:SV)=.tup [.int .i64 (dS c p).1,.int .i64 (dS c p).2]:=fun {lo hi d} e q=>by
  have h:inB p lo hi=false:=by simpa using q
  rw[e,Sb h]
 refine aR.intro (nt:=36) ti_ok mixed (by kernel_rfl) Tryz.func216 rfl rfl rfl rfl rfl ?_;refine aI (fun q1=> ?_) (fun q1=> ?_)
 ·refine aI (fun _=> ?_) (fun h=>by rw[show(c==1)=true from q1]at h;cases h);refine Or.inl (eI _ (aI (Ju _ _ _) ?_));refine aI (fun q=> ?_) (fun q=> ?_)
  ·exact leafF (lo:=0) (hi:=0) (d:= -2) (by simp only[dS,q1,cond_true,cond_false]) q
  ·exact leafT (lo:=0) (hi:=0) (d:= -2) (by simp only[dS,q1,cond_true,cond_false]) (fun h=>by obtain⟨h1,h2⟩:=jY h;have e0:p=0:=(by omega);subst e0;rfl) q
 refine aI (fun q2=> ?_) (fun q2=> ?_)
 ·refine Or.inl (eI _ (aI (Ju _ _ _) ?_));refine aI (fun q=> ?_) (fun q=> ?_)
  ·exact leafF (lo:=0) (hi:=0) (d:= -2) (by simp only[dS,q1,q2,cond_true,cond_false]) q
  ·exact leafT (lo:=0) (hi:=0) (d:= -2) (by simp only[dS,q1,q2,cond_true,cond_false]) (fun h=>by obtain⟨h1,h2⟩:=jY h;have e0:p=0:=(by omega);subst e0;rfl) q
 refine aI (fun q3=> ?_) (fun q3=> ?_)
 ·refine Or.inl (eI _ (aI (Ju _ _ _) ?_));refine aI (fun q=> ?_) (fun q=> ?_)
  ·exact leafF (lo:=0) (hi:=3) (d:=0) (by simp only[dS,q1,q2,q3,cond_true,cond_false]) q
  ·exact leafT (lo:=0) (hi:=3) (d:=0) (by simp only[dS,q1,q2,q3,cond_true,cond_false]) (fun h=>by obtain⟨h1,h2⟩:=jY h;rw[IntWalk.i64_in _ (by omega)];omega) q
 refine aI (fun q4=> ?_) (fun q4=> ?_)
 ·refine Or.inl (eI _ (aI (Ju _ _ _) ?_));refine aI (fun q=> ?_) (fun q=> ?_)
  ·exact leafF (lo:=0) (hi:=3) (d:= -2) (by simp only[dS,q1,q2,q3,q4,cond_true,cond_false]) q
  ·exact leafT (lo:=0) (hi:=3) (d:= -2) (by simp only[dS,q1,q2,q3,q4,cond_true,cond_false]) (fun _=>rfl) q
 refine aI (fun q5=> ?_) (fun q5=> ?_)
 ·refine Or.inl (eI _ (aI (Ju _ _ _) ?_));refine aI (fun q=> ?_) (fun q=> ?_)
  ·exact leafF (lo:=0) (hi:=0) (d:= -1) (by simp only[dS,q1,q2,q3,q4,q5,cond_true,cond_false]) q
  ·exact leafT (lo:=0) (hi:=0) (d:= -1) (by simp only[dS,q1,q2,q3,q4,q5,cond_true,cond_false]) (fun h=>by obtain⟨h1,h2⟩:=jY h;have e0:p=0:=(by omega);subst e0;rfl) q
 refine aI (fun q6=> ?_) (fun q6=> ?_)
 ·refine Or.inl (eI _ (aI (Ju _ _ _) ?_));refine aI (fun q=> ?_) (fun q=> ?_)
  ·exact leafF (lo:=0) (hi:=3) (d:= -1) (by simp only[dS,q1,q2,q3,q4,q5,q6,cond_true,cond_false]) q
  ·exact leafT (lo:=0) (hi:=3) (d:= -1) (by simp only[dS,q1,q2,q3,q4,q5,q6,cond_true,cond_false]) (fun _=>rfl) q
 refine aI (fun q7=> ?_) (fun q7=> ?_)
 ·refine Or.inl (eI _ (aI (Ju _ _ _) ?_));refine aI (fun q=> ?_) (fun q=> ?_)
  ·exact leafF (lo:=2) (hi:=600) (d:= -2) (by simp only[dS,q1,q2,q3,q4,q5,q6,q7,cond_true,cond_false]) q
  ·exact leafT (lo:=2) (hi:=600) (d:= -2) (by simp only[dS,q1,q2,q3,q4,q5,q6,q7,cond_true,cond_false]) (fun _=>rfl) q
 ·have e:dS c p=(0,2):=by simp only[dS,q1,q2,q3,q4,q5,q6,q7,cond_true,cond_false]
  rw[e];exact rfl
theorem dupA(xs:List NAgent)(us:List Value)(x y:Int)(hA:bG xs)(h0:ak xs (0,0))(hl:xs.length≤900000)(hx1:ak xs (x,1))(hx2:ak xs (x,2))(hy:0≤y∧y<(xs.length:Nat))(hp:(ah xs y).2.2.2.2.length≤1000)(hdt:(ah xs y).2.2.2.1.length≤1000000)(hp0:0<(ah xs y).2.2.2.2.length):
  FCall Tryz.prog 184 [.ptr 10000 0,.int .i64 x,.int .i64 y] (tA xs us) (.tup []) (QX 10002 (bL xs x y) us):=by
 have hx:0≤x∧x<(xs.length:Nat):=⟨hx1.1,hx1.2.1⟩;refine FCall.intro (nt:=102) ti_ok mixed Ta Tryz.func184 rfl rfl rfl rfl rfl rfl ?_;refine aI hx ?_;refine aI hy ?_;refine Or.inr (eI _ (eI _ (aI (zm xs us y (by omega) (by omega)) ?_)));refine Or.inr (eI _ (eI _ (aI (IW xs us (ah xs y).1 (ah xs y).2.1 (ah xs y).2.2.1 (ah xs y).2.2.2.2.length (ah xs y).2.2.2.1 (by omega) (by omega) (by omega)) ?_)));have hadd2:=IW (xs++[nG xs y]) us (ah xs y).1 (ah xs y).2.1 (ah xs y).2.2.1 (ah xs y).2.2.2.2.length (ah xs y).2.2.2.1 (by rw[List.length_append,List.length_singleton];omega) (by omega) (by omega)
 rw[show(xs++[nG xs y]).length=xs.length+1 by simp]at hadd2;refine Or.inr (eI _ (eI _ (aI hadd2 ?_)));have h2A:=wV (y:=y) hA h0
 have hFS:∀k,(bf (ah xs x).2.1 ((xs.length:Nat):Int) ((xs.length+1:Nat):Int) (dup2 xs y) k)=dP x ((xs.length:Nat):Int) ((xs.length+1:Nat):Int) (dup2 xs y) k:=fun k=>by
  have h:=(kM (x:=x) (c:=((xs.length:Nat):Int)) (d:=((xs.length+1:Nat):Int)) (xs:=dup2 xs y) (by rw[gW];omega) k).1;have e:(ah (dup2 xs y) x).2.1=(ah xs x).2.1:=by unfold dup2;rw[List.append_assoc,dJ (by omega)]
  rw[e]at h;exact h
 have hcd:∀i:Nat,i≤((ah xs y).2.2.2.2.length-1)→ak (dup2 xs y) (((xs.length:Nat):Int),(i:Nat))∧ak (dup2 xs y) (((xs.length+1:Nat):Int),(i:Nat)):=fun i hi=>⟨rG (by omega) (by omega),rH (by omega) (by omega)⟩
 refine lp Nat (fun k=>[(11,.int .i64 ((k+1:Nat):Int))]) (fun k=>[.cel 10000 36 [.sl 20000],.row 20000 150 5 uAgent (bf (ah xs x).2.1 ((xs.length:Nat):Int) ((xs.length+1:Nat):Int) (dup2 xs y) k) us]) (fun k=>((ah xs y).2.2.2.2.length-1)-k) (fun k=>k≤((ah xs y).2.2.2.2.length-1)) 0 (Nat.zero_le _) ?_ ?_
 ·exact hd [(20000,53)] rfl (aI (aI rfl rfl) trivial) ⟨trivial,⟨rfl,trivial⟩,⟨rfl,pR _⟩,trivial⟩
 intro k hk;have hcl:(bf (ah xs x).2.1 ((xs.length:Nat):Int) ((xs.length+1:Nat):Int) (dup2 xs y) k).length=xs.length+2+k:=by rw[hFS,ji,gW]
 refine aI (fun q1=> ?_) (fun q1=> ?_)
 ·have q2:((k+1:Nat):Int)<((ah xs y).2.2.2.2.length:Nat):=by have q2:decide (((k+1:Nat):Int)<((ah xs y).2.2.2.2.length:Nat))=true:=q1;simpa using q2
  refine Or.inr (eI _ (eI _ (aI (uX (bf (ah xs x).2.1 ((xs.length:Nat):Int) ((xs.length+1:Nat):Int) (dup2 xs y) k) us 4 (ah xs x).2.1 0 3 (by rw[hcl];omega) (by omega)) ?_)));have hc:=hcd (k+1) (by omega);have hin:∀{p},ak (dup2 xs y) p→ak (bf (ah xs x).2.1 ((xs.length:Nat):Int) ((xs.length+1:Nat):Int) (dup2 xs y) k) p:=fun h=>by rw[hFS];exact cO h k
  refine Or.inl (eI _ (aI (bV _ 1) ?_));refine Or.inl (eI _ (aI (bV _ _) ?_));refine Or.inr (eI _ (eI _ (aI (Ht ((bf (ah xs x).2.1 ((xs.length:Nat):Int) ((xs.length+1:Nat):Int) (dup2 xs y) k)++[bD 4 (ah xs x).2.1 0 [] 3]) us (((bf (ah xs x).2.1 ((xs.length:Nat):Int) ((xs.length+1:Nat):Int) (dup2 xs y) k).length:Nat),1) (((xs.length:Nat):Int),((k+1:Nat):Int)) (ak.new (by decide) (by decide)) (hin hc.1).app) ?_)));refine Or.inl (eI _ (aI (bV _ 2) ?_));refine Or.inl (eI _ (aI (bV _ _) ?_));refine Or.inr (eI _ (eI _ (aI (Ht (bQ ((bf (ah xs x).2.1 ((xs.length:Nat):Int) ((xs.length+1:Nat):Int) (dup2 xs y) k)++[bD 4 (ah xs x).2.1 0 [] 3]) (((bf (ah xs x).2.1 ((xs.length:Nat):Int) ((xs.length+1:Nat):Int) (dup2 xs y) k).length:Nat),1) (((xs.length:Nat):Int),((k+1:Nat):Int))) us (((bf (ah xs x).2.1 ((xs.length:Nat):Int) ((xs.length+1:Nat):Int) (dup2 xs y) k).length:Nat),2) (((xs.length+1:Nat):Int),((k+1:Nat):Int)) (ak.link (ak.new (by decide) (by decide))) (hin hc.2).app.link) ?_)))
  refine lp_next (k+1) (by omega) ?_ ?_
  ·exact hd [(20000,61)] rfl (aI (aI (wrapS (by omega)) rfl) trivial) ⟨trivial,⟨rfl,trivial⟩,⟨rfl,pR _⟩,trivial⟩
  ·show((ah xs y).2.2.2.2.length-1)-(k+1)<((ah xs y).2.2.2.2.length-1)-k;omega
 ·have q2:((ah xs y).2.2.2.2.length:Nat)≤((k+1:Nat):Int):=by have q2:decide (((k+1:Nat):Int)<((ah xs y).2.2.2.2.length:Nat))=false:=q1;simpa using q2
  have hke:k=((ah xs y).2.2.2.2.length-1):=by omega
  subst hke;have hd3:(bf (ah xs x).2.1 ((xs.length:Nat):Int) ((xs.length+1:Nat):Int) (dup2 xs y) ((ah xs y).2.2.2.2.length-1))=dup3 xs x y:=hFS _;have h3A:bG (dup3 xs x y):=mU h2A (nQ h0) _ hcd;have h3:∀{p},ak xs p→ak (dup3 xs x y) p:=fun h=>cO (nQ h) _
  have hc0:ak (dup3 xs x y) (((xs.length:Nat):Int),0):=cO (rG (by decide) (by omega)) _;have hd0:ak (dup3 xs x y) (((xs.length+1:Nat):Int),0):=cO (rH (by decide) (by omega)) _;have hm1:=moveA (dup3 xs x y) us (x,1) ((xs.length:Nat),0) h3A (h3 hx1) hc0;rw[←hd3]at hm1;refine Or.inl (eI _ (aI (bV x 1) ?_));refine Or.inl (eI _ (aI (bV _ 0) ?_));refine Or.inr (eI _ (eI _ (aI hm1 ?_)));have hm2:=moveA (dN (dup3 xs x y) (x,1) ((xs.length:Nat),0)) us (x,2) (((xs.length+1:Nat):Int),0) (h3A.move (h3 hx1) hc0) (h3 hx2).move hd0.move
  rw[←hd3]at hm2;refine Or.inl (eI _ (aI (bV x 2) ?_));refine Or.inl (eI _ (aI (bV _ 0) ?_));refine Or.inr (eI _ (eI _ (aI hm2 ?_)));have h4A:bG (lD xs x y):=(h3A.move (h3 hx1) hc0).move (h3 hx2).move hd0.move
  have hyi:∀i:Nat,i<((ah xs y).2.2.2.2.length-1)→ak (lD xs x y) (y,((i:Nat):Int)+1)∧ak (lD xs x y) (((xs.length+2+i:Nat):Int),0):=fun i hi=>by
   refine⟨(h3 ⟨hy.1,hy.2,by omega,?_⟩).move.move,?_⟩
   ·show((i:Nat):Int)+1<((ah xs y).2.2.2.2.length:Nat);omega
   ·have:=(rJ (x:=x) (c:=((xs.length:Nat):Int)) (d:=((xs.length+1:Nat):Int)) (xs:=dup2 xs y) hi).move (p:=(x,1)) (q:=(((xs.length:Nat):Int),0));have:=this.move (p:=(x,2)) (q:=(((xs.length+1:Nat):Int),0));rw[gW]at this;exact this
  refine lp Nat (fun k=>[(13,.int .i64 ((k+1:Nat):Int))]) (fun k=>[.cel 10000 36 [.sl 20000],.row 20000 150 5 uAgent (dG y (xs.length+2) (lD xs x y) k) us]) (fun k=>((ah xs y).2.2.2.2.length-1)-k) (fun k=>k≤((ah xs y).2.2.2.2.length-1)) 0 (Nat.zero_le _) ?_ ?_
  ·refine hd [] rfl (aI (aI rfl rfl) trivial) ⟨trivial,⟨rfl,trivial⟩,⟨?_,pR _⟩,trivial⟩;show dN (dN (bf (ah xs x).2.1 ((xs.length:Nat):Int) ((xs.length+1:Nat):Int) (dup2 xs y) ((ah xs y).2.2.2.2.length-1)) (x,1) ((xs.length:Nat),0)) (x,2) (((xs.length+1:Nat):Int),0)=lD xs x y;rw[hd3];rfl
  intro k hk;refine aI (fun q1=> ?_) (fun q1=> ?_)
  ·have q2:((k+1:Nat):Int)<((ah xs y).2.2.2.2.length:Nat):=by have q2:decide (((k+1:Nat):Int)<((ah xs y).2.2.2.2.length:Nat))=true:=q1;simpa using q2
   have hyk:=hyi k (by omega);have hrp:=moveA (dG y (xs.length+2) (lD xs x y) k) us (y,((k:Nat):Int)+1) (((xs.length+2+k:Nat):Int),0) (lF h4A k fun i hi=>hyi i (by omega)) (fK hyk.1 k) (fK hyk.2 k);have e1:((k:Nat):Int)+1=((k+1:Nat):Int):=by omega
   have e2:((xs.length+2+k:Nat):Int)=IntKind.i64.wrap (((xs.length+1:Nat):Int)+((k+1:Nat):Int)):=by rw[IntWalk.i64_in _ (by omega)];omega
   rw[e1,e2]at hrp;refine Or.inl (eI _ (aI (bV y _) ?_));refine Or.inl (eI _ (aI (bV _ 0) ?_));refine Or.inr (eI _ (eI _ (aI hrp ?_)));refine lp_next (k+1) (by omega) ?_ ?_
   ·refine hd [] rfl (aI (aI (wrapS (by omega)) rfl) trivial) ⟨trivial,⟨rfl,trivial⟩,⟨?_,pR _⟩,trivial⟩;show dN (dG y (xs.length+2) (lD xs x y) k) (y,((k+1:Nat):Int)) (IntKind.i64.wrap (((xs.length+1:Nat):Int)+((k+1:Nat):Int)),0)=dG y (xs.length+2) (lD xs x y) (k+1);rw[←e2,←e1];rfl
   ·show((ah xs y).2.2.2.2.length-1)-(k+1)<((ah xs y).2.2.2.2.length-1)-k;omega
  ·have q2:((ah xs y).2.2.2.2.length:Nat)≤((k+1:Nat):Int):=by have q2:decide (((k+1:Nat):Int)<((ah xs y).2.2.2.2.length:Nat))=false:=q1;simpa using q2
   have hke:k=((ah xs y).2.2.2.2.length-1):=by omega
   refine fin [(10002,20000)] (aI rfl ?_);refine⟨trivial,⟨rfl,trivial⟩,⟨?_,pR _⟩,trivial⟩;show dG y (xs.length+2) (lD xs x y) k=bL xs x y;rw[hke];rfl
theorem Zo(xs:List NAgent)(us:List Value)(pk:Int)(tr:List Int)(x y:Int)(hA:bG xs)(h0:ak xs (0,0))(hl:xs.length≤900000)(hx1:ak xs (x,1))(hx2:ak xs (x,2))(hy:0≤y∧y<(xs.length:Nat))(hp:(ah xs y).2.2.2.2.length≤1000)(hdt:(ah xs y).2.2.2.1.length≤1000000)(hp0:0<(ah xs y).2.2.2.2.length):
  FCall Tryz.prog 184 [.ptr 10000 0,.int .i64 x,.int .i64 y] (tB xs us pk tr) (.tup []) (QY 10003 (bL xs x y) us pk tr):=by
 have hx:0≤x∧x<(xs.length:Nat):=⟨hx1.1,hx1.2.1⟩;refine FCall.intro (nt:=102) ti_ok mixed Ta Tryz.func184 rfl rfl rfl rfl rfl rfl ?_;refine aI hx ?_;refine aI hy ?_;refine Or.inr (eI _ (eI _ (aI (zm xs us y (by omega) (by omega)) ?_)));refine Or.inr (eI _ (eI _ (aI (IY xs us pk tr (ah xs y).1 (ah xs y).2.1 (ah xs y).2.2.1 (ah xs y).2.2.2.2.length (ah xs y).2.2.2.1 (by omega) (by omega) (by omega)) ?_)));have hadd2:=IY (xs++[nG xs y]) us pk tr (ah xs y).1 (ah xs y).2.1 (ah xs y).2.2.1 (ah xs y).2.2.2.2.length (ah xs y).2.2.2.1 (by rw[List.length_append,List.length_singleton];omega) (by omega) (by omega)
 rw[show(xs++[nG xs y]).length=xs.length+1 by simp]at hadd2;refine Or.inr (eI _ (eI _ (aI hadd2 ?_)));have h2A:=wV (y:=y) hA h0
 have hFS:∀k,(bf (ah xs x).2.1 ((xs.length:Nat):Int) ((xs.length+1:Nat):Int) (dup2 xs y) k)=dP x ((xs.length:Nat):Int) ((xs.length+1:Nat):Int) (dup2 xs y) k:=fun k=>by
  have h:=(kM (x:=x) (c:=((xs.length:Nat):Int)) (d:=((xs.length+1:Nat):Int)) (xs:=dup2 xs y) (by rw[gW];omega) k).1;have e:(ah (dup2 xs y) x).2.1=(ah xs x).2.1:=by unfold dup2;rw[List.append_assoc,dJ (by omega)]
  rw[e]at h;exact h
 have hcd:∀i:Nat,i≤((ah xs y).2.2.2.2.length-1)→ak (dup2 xs y) (((xs.length:Nat):Int),(i:Nat))∧ak (dup2 xs y) (((xs.length+1:Nat):Int),(i:Nat)):=fun i hi=>⟨rG (by omega) (by omega),rH (by omega) (by omega)⟩
 refine lp Nat (fun k=>[(11,.int .i64 ((k+1:Nat):Int))]) (fun k=>[.cel 10000 124 [.sl 20000,.sl 10002,.int .i64 pk],.row 20000 150 5 uAgent (bf (ah xs x).2.1 ((xs.length:Nat):Int) ((xs.length+1:Nat):Int) (dup2 xs y) k) us,.row 10002 2 1 (.int .i64) tr []]) (fun k=>((ah xs y).2.2.2.2.length-1)-k) (fun k=>k≤((ah xs y).2.2.2.2.length-1)) 0 (Nat.zero_le _) ?_ ?_
 ·exact hd [(20000,53)] rfl (aI (aI rfl rfl) trivial) ⟨trivial,⟨rfl,rfl,⟨rfl,rfl⟩,trivial⟩,⟨rfl,pR _⟩,⟨rfl,nP⟩,trivial⟩
 intro k hk;have hcl:(bf (ah xs x).2.1 ((xs.length:Nat):Int) ((xs.length+1:Nat):Int) (dup2 xs y) k).length=xs.length+2+k:=by rw[hFS,ji,gW]
 refine aI (fun q1=> ?_) (fun q1=> ?_)
 ·have q2:((k+1:Nat):Int)<((ah xs y).2.2.2.2.length:Nat):=by have q2:decide (((k+1:Nat):Int)<((ah xs y).2.2.2.2.length:Nat))=true:=q1;simpa using q2
  refine Or.inr (eI _ (eI _ (aI (uY (bf (ah xs x).2.1 ((xs.length:Nat):Int) ((xs.length+1:Nat):Int) (dup2 xs y) k) us pk tr 4 (ah xs x).2.1 0 3 (by rw[hcl];omega) (by omega)) ?_)));have hc:=hcd (k+1) (by omega);have hin:∀{p},ak (dup2 xs y) p→ak (bf (ah xs x).2.1 ((xs.length:Nat):Int) ((xs.length+1:Nat):Int) (dup2 xs y) k) p:=fun h=>by rw[hFS];exact cO h k
  refine Or.inl (eI _ (aI (bV _ 1) ?_));refine Or.inl (eI _ (aI (bV _ _) ?_));refine Or.inr (eI _ (eI _ (aI (Hu ((bf (ah xs x).2.1 ((xs.length:Nat):Int) ((xs.length+1:Nat):Int) (dup2 xs y) k)++[bD 4 (ah xs x).2.1 0 [] 3]) us pk tr (((bf (ah xs x).2.1 ((xs.length:Nat):Int) ((xs.length+1:Nat):Int) (dup2 xs y) k).length:Nat),1) (((xs.length:Nat):Int),((k+1:Nat):Int)) (ak.new (by decide) (by decide)) (hin hc.1).app) ?_)));refine Or.inl (eI _ (aI (bV _ 2) ?_));refine Or.inl (eI _ (aI (bV _ _) ?_));refine Or.inr (eI _ (eI _ (aI (Hu (bQ ((bf (ah xs x).2.1 ((xs.length:Nat):Int) ((xs.length+1:Nat):Int) (dup2 xs y) k)++[bD 4 (ah xs x).2.1 0 [] 3]) (((bf (ah xs x).2.1 ((xs.length:Nat):Int) ((xs.length+1:Nat):Int) (dup2 xs y) k).length:Nat),1) (((xs.length:Nat):Int),((k+1:Nat):Int))) us pk tr (((bf (ah xs x).2.1 ((xs.length:Nat):Int) ((xs.length+1:Nat):Int) (dup2 xs y) k).length:Nat),2) (((xs.length+1:Nat):Int),((k+1:Nat):Int)) (ak.link (ak.new (by decide) (by decide))) (hin hc.2).app.link) ?_)))
  refine lp_next (k+1) (by omega) ?_ ?_
  ·exact hd [(20000,61)] rfl (aI (aI (wrapS (by omega)) rfl) trivial) ⟨trivial,⟨rfl,rfl,⟨rfl,rfl⟩,trivial⟩,⟨rfl,pR _⟩,⟨rfl,nP⟩,trivial⟩
  ·show((ah xs y).2.2.2.2.length-1)-(k+1)<((ah xs y).2.2.2.2.length-1)-k;omega
 ·have q2:((ah xs y).2.2.2.2.length:Nat)≤((k+1:Nat):Int):=by have q2:decide (((k+1:Nat):Int)<((ah xs y).2.2.2.2.length:Nat))=false:=q1;simpa using q2
  have hke:k=((ah xs y).2.2.2.2.length-1):=by omega
  subst hke;have hd3:(bf (ah xs x).2.1 ((xs.length:Nat):Int) ((xs.length+1:Nat):Int) (dup2 xs y) ((ah xs y).2.2.2.2.length-1))=dup3 xs x y:=hFS _;have h3A:bG (dup3 xs x y):=mU h2A (nQ h0) _ hcd;have h3:∀{p},ak xs p→ak (dup3 xs x y) p:=fun h=>cO (nQ h) _
  have hc0:ak (dup3 xs x y) (((xs.length:Nat):Int),0):=cO (rG (by decide) (by omega)) _;have hd0:ak (dup3 xs x y) (((xs.length+1:Nat):Int),0):=cO (rH (by decide) (by omega)) _;have hm1:=moveB (dup3 xs x y) us pk tr (x,1) ((xs.length:Nat),0) h3A (h3 hx1) hc0;rw[←hd3]at hm1;refine Or.inl (eI _ (aI (bV x 1) ?_));refine Or.inl (eI _ (aI (bV _ 0) ?_));refine Or.inr (eI _ (eI _ (aI hm1 ?_)));have hm2:=moveB (dN (dup3 xs x y) (x,1) ((xs.length:Nat),0)) us pk tr (x,2) (((xs.length+1:Nat):Int),0) (h3A.move (h3 hx1) hc0) (h3 hx2).move hd0.move
  rw[←hd3]at hm2;refine Or.inl (eI _ (aI (bV x 2) ?_));refine Or.inl (eI _ (aI (bV _ 0) ?_));refine Or.inr (eI _ (eI _ (aI hm2 ?_)));have h4A:bG (lD xs x y):=(h3A.move (h3 hx1) hc0).move (h3 hx2).move hd0.move
  have hyi:∀i:Nat,i<((ah xs y).2.2.2.2.length-1)→ak (lD xs x y) (y,((i:Nat):Int)+1)∧ak (lD xs x y) (((xs.length+2+i:Nat):Int),0):=fun i hi=>by
   refine⟨(h3 ⟨hy.1,hy.2,by omega,?_⟩).move.move,?_⟩
   ·show((i:Nat):Int)+1<((ah xs y).2.2.2.2.length:Nat);omega
   ·have:=(rJ (x:=x) (c:=((xs.length:Nat):Int)) (d:=((xs.length+1:Nat):Int)) (xs:=dup2 xs y) hi).move (p:=(x,1)) (q:=(((xs.length:Nat):Int),0));have:=this.move (p:=(x,2)) (q:=(((xs.length+1:Nat):Int),0));rw[gW]at this;exact this
  refine lp Nat (fun k=>[(13,.int .i64 ((k+1:Nat):Int))]) (fun k=>[.cel 10000 124 [.sl 20000,.sl 10002,.int .i64 pk],.row 20000 150 5 uAgent (dG y (xs.length+2) (lD xs x y) k) us,.row 10002 2 1 (.int .i64) tr []]) (fun k=>((ah xs y).2.2.2.2.length-1)-k) (fun k=>k≤((ah xs y).2.2.2.2.length-1)) 0 (Nat.zero_le _) ?_ ?_
  ·refine hd [] rfl (aI (aI rfl rfl) trivial) ⟨trivial,⟨rfl,rfl,⟨rfl,rfl⟩,trivial⟩,⟨?_,pR _⟩,⟨rfl,nP⟩,trivial⟩;show dN (dN (bf (ah xs x).2.1 ((xs.length:Nat):Int) ((xs.length+1:Nat):Int) (dup2 xs y) ((ah xs y).2.2.2.2.length-1)) (x,1) ((xs.length:Nat),0)) (x,2) (((xs.length+1:Nat):Int),0)=lD xs x y;rw[hd3];rfl
  intro k hk;refine aI (fun q1=> ?_) (fun q1=> ?_)
  ·have q2:((k+1:Nat):Int)<((ah xs y).2.2.2.2.length:Nat):=by have q2:decide (((k+1:Nat):Int)<((ah xs y).2.2.2.2.length:Nat))=true:=q1;simpa using q2
   have hyk:=hyi k (by omega);have hrp:=moveB (dG y (xs.length+2) (lD xs x y) k) us pk tr (y,((k:Nat):Int)+1) (((xs.length+2+k:Nat):Int),0) (lF h4A k fun i hi=>hyi i (by omega)) (fK hyk.1 k) (fK hyk.2 k);have e1:((k:Nat):Int)+1=((k+1:Nat):Int):=by omega
   have e2:((xs.length+2+k:Nat):Int)=IntKind.i64.wrap (((xs.length+1:Nat):Int)+((k+1:Nat):Int)):=by rw[IntWalk.i64_in _ (by omega)];omega
   rw[e1,e2]at hrp;refine Or.inl (eI _ (aI (bV y _) ?_));refine Or.inl (eI _ (aI (bV _ 0) ?_));refine Or.inr (eI _ (eI _ (aI hrp ?_)));refine lp_next (k+1) (by omega) ?_ ?_
   ·refine hd [] rfl (aI (aI (wrapS (by omega)) rfl) trivial) ⟨trivial,⟨rfl,rfl,⟨rfl,rfl⟩,trivial⟩,⟨?_,pR _⟩,⟨rfl,nP⟩,trivial⟩;show dN (dG y (xs.length+2) (lD xs x y) k) (y,((k+1:Nat):Int)) (IntKind.i64.wrap (((xs.length+1:Nat):Int)+((k+1:Nat):Int)),0)=dG y (xs.length+2) (lD xs x y) (k+1);rw[←e2,←e1];rfl
   ·show((ah xs y).2.2.2.2.length-1)-(k+1)<((ah xs y).2.2.2.2.length-1)-k;omega
  ·have q2:((ah xs y).2.2.2.2.length:Nat)≤((k+1:Nat):Int):=by have q2:decide (((k+1:Nat):Int)<((ah xs y).2.2.2.2.length:Nat))=false:=q1;simpa using q2
   have hke:k=((ah xs y).2.2.2.2.length-1):=by omega
   refine fin [(10003,20000)] (aI rfl ?_);refine⟨trivial,⟨rfl,rfl,⟨rfl,rfl⟩,trivial⟩,⟨?_,pR _⟩,⟨rfl,nP⟩,trivial⟩;show dG y (xs.length+2) (lD xs x y) k=bL xs x y;rw[hke];rfl
theorem TJ:callOk Tryz.prog 189=true:=by kernel_rfl
theorem expA(t:List NAgent)(xs:List NAgent)(us:List Value)(x y:Int)(lv:Int)(hlv0:(ah xs x).2.1=lv)(hx:0≤x∧x<(xs.length:Nat))(hl:xs.length≤900000)(hs:NetSmall t)(ht:1≤t.length)(htl:t.length≤1000)(ht0:0<(ah t 0).2.2.2.2.length)(hlv1:0≤lv∧lv≤8)(hlt8:∀i:Nat,0≤(ah t i).2.1∧(ah t i).2.1≤8)
  (hpt:∀i j:Nat,tY (elt (dflt uPort) (ah t (i:Nat)).2.2.2.2 (j:Nat)).1) (hy:ak xs (y,0)) (htop:ak (xs++jK lv ((xs.length:Nat)-1:Int) t (t.length-1)) (((xs.length:Nat)-1:Int)+(aF t (0,0)).1,(aF t (0,0)).2)):
  FCall Tryz.prog 189 [.rp uNet t,.ptr 10000 0,.int .i64 x,.int .i64 y] (tA xs us) (.tup []) (QX 10002 (fE t lv xs y) us):=by
 subst hlv0;refine FCall.intro (nt:=99) ti_ok mixed TJ Tryz.func189 rfl rfl rfl rfl rfl rfl ?_;refine aI hx ?_;have hwb:IntKind.i64.wrap ((xs.length:Nat)-1)=((xs.length:Nat)-1:Int):=IntWalk.i64_in _ (by omega);generalize hlve:(ah xs x).2.1=lv at*;refine lp Nat (fun k=>[(10,.int .i64 ((k+1:Nat):Int)),(8,.int .i64 lv),(9,.int .i64 ((xs.length:Nat)-1:Int))]) (fun k=>[.cel 10000 36 [.sl 20000],.row 20000 150 5 uAgent (xs++jK lv ((xs.length:Nat)-1:Int) t k) us]) (fun k=>t.length-1-k) (fun k=>k+1≤t.length) 0 ht ?_ ?_
 ·refine hd [(20000,10001)] rfl (aI (aI rfl rfl) (aI (aI hlve rfl) (aI (aI hwb rfl) trivial))) ⟨trivial,⟨rfl,trivial⟩,⟨?_,pR _⟩,trivial⟩;show xs=(xs++jK lv ((xs.length:Nat)-1:Int) t 0);unfold jK;simp
 intro k hk;refine aI (fun q1=> ?_) (fun q1=> ?_)
 ·have hlt:k+1<t.length:=by
   have q2:decide (((k+1:Nat):Int)<(t.length:Nat))=true:=q1;have q3:((k+1:Nat):Int)<(t.length:Nat):=by simpa using q2
   omega
  refine aI (show 0≤((k+1:Nat):Int)∧((k+1:Nat):Int)<(t.length:Nat) by omega) ?_;refine Or.inr (eI _ (eI _ (aI (JQ (ah t ((k+1:Nat):Int)) (hs.2 (k+1)).1 (hs.2 (k+1)).2) ?_)));refine Or.inl (eI _ (aI (Dt _) ?_));have hl8:=hlt8 (k+1);refine aI (fun q2=> ?_) (fun q2=> ?_)
  ·have hlev:bW (ah t ((k+1:Nat):Int)).1=true:=q2;refine lp Nat (fun j=>[(12,.int .i64 (j:Nat))]) (fun j=>[.cel 11 150 [.int .i64 (ah t ((k+1:Nat):Int)).1,.int .i64 (IntKind.i64.wrap ((ah t ((k+1:Nat):Int)).2.1+lv)),.int .i64 (ah t ((k+1:Nat):Int)).2.2.1,.sl 43,.sl 21001],.cel 10000 36 [.sl 21000],.row 21000 150 5 uAgent (xs++jK lv ((xs.length:Nat)-1:Int) t k) us,.row 43 2 1 (.int .i64) (ah t ((k+1:Nat):Int)).2.2.2.1 [],.row 21001 104 2 uPort (d9 ((xs.length:Nat)-1:Int) (ah t ((k+1:Nat):Int)).2.2.2.2 j) []]) (fun j=>(ah t ((k+1:Nat):Int)).2.2.2.2.length-j) (fun j=>j≤(ah t ((k+1:Nat):Int)).2.2.2.2.length) 0 (Nat.zero_le _) ?_ ?_
   ·exact hd [(21000,20000),(21001,1000043)] rfl (aI (aI rfl rfl) trivial) ⟨trivial,⟨⟨rfl,rfl⟩,⟨rfl,rfl⟩,⟨rfl,rfl⟩,rfl,rfl,trivial⟩,trivial,⟨rfl,trivial⟩,⟨rfl,pR _⟩,⟨rfl,nP⟩,⟨rfl,nP⟩,trivial⟩
   intro j hj;refine aI (fun q3=> ?_) (fun q3=> ?_)
   ·have hlt2:j<(ah t ((k+1:Nat):Int)).2.2.2.2.length:=by
     have q4:decide (((j:Nat):Int)<((d9 ((xs.length:Nat)-1:Int) (ah t ((k+1:Nat):Int)).2.2.2.2 j).length:Nat))=true:=q3;rw[jf]at q4;simpa using q4
    have hpv:tY (elt (dflt uPort) (ah t ((k+1:Nat):Int)).2.2.2.2 (j:Nat)).1:=hpt (k+1) j;unfold tY at hpv;have hps:(ah t ((k+1:Nat):Int)).2.2.2.2.length≤1048576:=(hs.2 (k+1)).2;have hat:elt (dflt uPort) (d9 ((xs.length:Nat)-1:Int) (ah t ((k+1:Nat):Int)).2.2.2.2 j) (j:Nat)=elt (dflt uPort) (ah t ((k+1:Nat):Int)).2.2.2.2 (j:Nat):=uJ hlt2;have hw:IntKind.i64.wrap ((elt (dflt uPort) (ah t ((k+1:Nat):Int)).2.2.2.2 (j:Nat)).1+((xs.length:Nat)-1:Int))=(elt (dflt uPort) (ah t ((k+1:Nat):Int)).2.2.2.2 (j:Nat)).1+((xs.length:Nat)-1:Int):=IntWalk.i64_in _ (by omega)
    have hbnd:0≤((j:Nat):Int)∧((j:Nat):Int)<((d9 ((xs.length:Nat)-1:Int) (ah t ((k+1:Nat):Int)).2.2.2.2 j).length:Nat):=by rw[jf];omega
    refine aI hbnd ?_;refine aI hbnd ?_;refine lp_next (j+1) hlt2 ?_ ?_
    ·refine hd [] rfl (aI (aI (wrapS (by omega)) rfl) trivial) ⟨trivial,⟨⟨rfl,rfl⟩,⟨rfl,rfl⟩,⟨rfl,rfl⟩,rfl,rfl,trivial⟩,trivial,⟨rfl,trivial⟩,⟨rfl,pR _⟩,⟨rfl,nP⟩,⟨?_,nP⟩,trivial⟩;show(d9 ((xs.length:Nat)-1:Int) (ah t ((k+1:Nat):Int)).2.2.2.2 j).set j (IntKind.i64.wrap ((elt (dflt uPort) (d9 ((xs.length:Nat)-1:Int) (ah t ((k+1:Nat):Int)).2.2.2.2 j) (j:Nat)).1+((xs.length:Nat)-1:Int)),(elt (dflt uPort) (d9 ((xs.length:Nat)-1:Int) (ah t ((k+1:Nat):Int)).2.2.2.2 j) (j:Nat)).2)=d9 ((xs.length:Nat)-1:Int) (ah t ((k+1:Nat):Int)).2.2.2.2 (j+1)
     rw[sw hlt2,hat,hw]
    ·show(ah t ((k+1:Nat):Int)).2.2.2.2.length-(j+1)<(ah t ((k+1:Nat):Int)).2.2.2.2.length-j;omega
   have hje:j=(ah t ((k+1:Nat):Int)).2.2.2.2.length:=by
    have q4:decide (((j:Nat):Int)<((d9 ((xs.length:Nat)-1:Int) (ah t ((k+1:Nat):Int)).2.2.2.2 j).length:Nat))=false:=q3;rw[jf]at q4;have q5:(ah t ((k+1:Nat):Int)).2.2.2.2.length≤j:=by simpa using q4
    omega
   refine aI (by show(xs++jK lv ((xs.length:Nat)-1:Int) t k).length+1≤_;rw[List.length_append,Ah (by omega)];have:=hs.1;omega) ?_;refine aI (by kernel_rfl) ?_;refine lp_next (k+1) (by show k+1+1≤t.length;omega) ?_ ?_
   ·refine hd [(20000,76)] rfl (aI (aI (wrapS (by have:=hs.1;omega)) rfl) (aI (aI rfl rfl) (aI (aI rfl rfl) trivial))) ⟨trivial,⟨rfl,trivial⟩,⟨?_,pR _⟩,trivial⟩;show(xs++jK lv ((xs.length:Nat)-1:Int) t k)++[((ah t ((k+1:Nat):Int)).1,(IntKind.i64.wrap ((ah t ((k+1:Nat):Int)).2.1+lv)),(ah t ((k+1:Nat):Int)).2.2.1,(ah t ((k+1:Nat):Int)).2.2.2.1,d9 ((xs.length:Nat)-1:Int) (ah t ((k+1:Nat):Int)).2.2.2.2 j)]=(xs++jK lv ((xs.length:Nat)-1:Int) t (k+1));rw[yj hlt,hje,uI,List.append_assoc]
    congr 2
    unfold dA jq;rw[show bW (ah t ((k+1:Nat):Int)).kind=true from hlev,IntWalk.i64_in _ (by omega)];rfl
   ·show t.length-1-(k+1)<t.length-1-k;omega
  ·have hlev:bW (ah t ((k+1:Nat):Int)).1=false:=q2;refine lp Nat (fun j=>[(12,.int .i64 (j:Nat))]) (fun j=>[.cel 11 150 [.int .i64 (ah t ((k+1:Nat):Int)).1,.int .i64 (ah t ((k+1:Nat):Int)).2.1,.int .i64 (ah t ((k+1:Nat):Int)).2.2.1,.sl 43,.sl 21001],.cel 10000 36 [.sl 21000],.row 21000 150 5 uAgent (xs++jK lv ((xs.length:Nat)-1:Int) t k) us,.row 43 2 1 (.int .i64) (ah t ((k+1:Nat):Int)).2.2.2.1 [],.row 21001 104 2 uPort (d9 ((xs.length:Nat)-1:Int) (ah t ((k+1:Nat):Int)).2.2.2.2 j) []]) (fun j=>(ah t ((k+1:Nat):Int)).2.2.2.2.length-j) (fun j=>j≤(ah t ((k+1:Nat):Int)).2.2.2.2.length) 0 (Nat.zero_le _) ?_ ?_
   ·exact hd [(21000,20000),(21001,1000043)] rfl (aI (aI rfl rfl) trivial) ⟨trivial,⟨⟨rfl,rfl⟩,⟨rfl,rfl⟩,⟨rfl,rfl⟩,rfl,rfl,trivial⟩,trivial,⟨rfl,trivial⟩,⟨rfl,pR _⟩,⟨rfl,nP⟩,⟨rfl,nP⟩,trivial⟩
   intro j hj;refine aI (fun q3=> ?_) (fun q3=> ?_)
   ·have hlt2:j<(ah t ((k+1:Nat):Int)).2.2.2.2.length:=by
     have q4:decide (((j:Nat):Int)<((d9 ((xs.length:Nat)-1:Int) (ah t ((k+1:Nat):Int)).2.2.2.2 j).length:Nat))=true:=q3;rw[jf]at q4;simpa using q4
    have hpv:tY (elt (dflt uPort) (ah t ((k+1:Nat):Int)).2.2.2.2 (j:Nat)).1:=hpt (k+1) j;unfold tY at hpv;have hps:(ah t ((k+1:Nat):Int)).2.2.2.2.length≤1048576:=(hs.2 (k+1)).2;have hat:elt (dflt uPort) (d9 ((xs.length:Nat)-1:Int) (ah t ((k+1:Nat):Int)).2.2.2.2 j) (j:Nat)=elt (dflt uPort) (ah t ((k+1:Nat):Int)).2.2.2.2 (j:Nat):=uJ hlt2;have hw:IntKind.i64.wrap ((elt (dflt uPort) (ah t ((k+1:Nat):Int)).2.2.2.2 (j:Nat)).1+((xs.length:Nat)-1:Int))=(elt (dflt uPort) (ah t ((k+1:Nat):Int)).2.2.2.2 (j:Nat)).1+((xs.length:Nat)-1:Int):=IntWalk.i64_in _ (by omega)
    have hbnd:0≤((j:Nat):Int)∧((j:Nat):Int)<((d9 ((xs.length:Nat)-1:Int) (ah t ((k+1:Nat):Int)).2.2.2.2 j).length:Nat):=by rw[jf];omega
    refine aI hbnd ?_;refine aI hbnd ?_;refine lp_next (j+1) hlt2 ?_ ?_
    ·refine hd [] rfl (aI (aI (wrapS (by omega)) rfl) trivial) ⟨trivial,⟨⟨rfl,rfl⟩,⟨rfl,rfl⟩,⟨rfl,rfl⟩,rfl,rfl,trivial⟩,trivial,⟨rfl,trivial⟩,⟨rfl,pR _⟩,⟨rfl,nP⟩,⟨?_,nP⟩,trivial⟩;show(d9 ((xs.length:Nat)-1:Int) (ah t ((k+1:Nat):Int)).2.2.2.2 j).set j (IntKind.i64.wrap ((elt (dflt uPort) (d9 ((xs.length:Nat)-1:Int) (ah t ((k+1:Nat):Int)).2.2.2.2 j) (j:Nat)).1+((xs.length:Nat)-1:Int)),(elt (dflt uPort) (d9 ((xs.length:Nat)-1:Int) (ah t ((k+1:Nat):Int)).2.2.2.2 j) (j:Nat)).2)=d9 ((xs.length:Nat)-1:Int) (ah t ((k+1:Nat):Int)).2.2.2.2 (j+1)
     rw[sw hlt2,hat,hw]
    ·show(ah t ((k+1:Nat):Int)).2.2.2.2.length-(j+1)<(ah t ((k+1:Nat):Int)).2.2.2.2.length-j;omega
   have hje:j=(ah t ((k+1:Nat):Int)).2.2.2.2.length:=by
    have q4:decide (((j:Nat):Int)<((d9 ((xs.length:Nat)-1:Int) (ah t ((k+1:Nat):Int)).2.2.2.2 j).length:Nat))=false:=q3;rw[jf]at q4;have q5:(ah t ((k+1:Nat):Int)).2.2.2.2.length≤j:=by simpa using q4
    omega
   refine aI (by show(xs++jK lv ((xs.length:Nat)-1:Int) t k).length+1≤_;rw[List.length_append,Ah (by omega)];have:=hs.1;omega) ?_;refine aI (by kernel_rfl) ?_;refine lp_next (k+1) (by show k+1+1≤t.length;omega) ?_ ?_
   ·refine hd [(20000,76)] rfl (aI (aI (wrapS (by have:=hs.1;omega)) rfl) (aI (aI rfl rfl) (aI (aI rfl rfl) trivial))) ⟨trivial,⟨rfl,trivial⟩,⟨?_,pR _⟩,trivial⟩;show(xs++jK lv ((xs.length:Nat)-1:Int) t k)++[((ah t ((k+1:Nat):Int)).1,(ah t ((k+1:Nat):Int)).2.1,(ah t ((k+1:Nat):Int)).2.2.1,(ah t ((k+1:Nat):Int)).2.2.2.1,d9 ((xs.length:Nat)-1:Int) (ah t ((k+1:Nat):Int)).2.2.2.2 j)]=(xs++jK lv ((xs.length:Nat)-1:Int) t (k+1));rw[yj hlt,hje,uI,List.append_assoc]
    congr 2
    unfold dA jq;rw[show bW (ah t ((k+1:Nat):Int)).kind=false from hlev];rfl
   ·show t.length-1-(k+1)<t.length-1-k;omega
 ·have hke:k=t.length-1:=by
   have q2:decide (((k+1:Nat):Int)<(t.length:Nat))=false:=q1;have q3:(t.length:Nat)≤((k+1:Nat):Int):=by simpa using q2
   omega
  subst hke;refine aI (show(0:Int)≤0∧(0:Int)<(t.length:Nat) by omega) ?_;refine aI (show(0:Int)≤0∧(0:Int)<((ah t 0).2.2.2.2.length:Nat) by omega) ?_;have hp0:tY (aF t (0,0)).1:=hpt 0 0;unfold tY at hp0;have hw:IntKind.i64.wrap (((xs.length:Nat)-1:Int)+(aF t (0,0)).1)=((xs.length:Nat)-1:Int)+(aF t (0,0)).1:=IntWalk.i64_in _ (by omega);have hlk:=Ht (xs++jK lv ((xs.length:Nat)-1:Int) t (t.length-1)) us (((xs.length:Nat)-1:Int)+(aF t (0,0)).1,(aF t (0,0)).2) (y,0) htop hy.app;rw[←hw]at hlk
  refine Or.inl (eI _ (aI (bV _ _) ?_));refine Or.inl (eI _ (aI (bV y 0) ?_));refine Or.inr (eI _ (eI _ (aI hlk ?_)));refine fin [(10002,20000)] (aI rfl ?_);refine⟨trivial,⟨rfl,trivial⟩,⟨?_,pR _⟩,trivial⟩;show bQ (xs++jK lv ((xs.length:Nat)-1:Int) t (t.length-1)) (IntKind.i64.wrap (((xs.length:Nat)-1:Int)+(aF t (0,0)).1),(aF t (0,0)).2) (y,0)=fE t lv xs y;rw[hw];rfl
theorem expB(t:List NAgent)(xs:List NAgent)(us:List Value)(pk:Int)(tr:List Int)(x y:Int)(lv:Int)(hlv0:(ah xs x).2.1=lv)(hx:0≤x∧x<(xs.length:Nat))(hl:xs.length≤900000)(hs:NetSmall t)(ht:1≤t.length)(htl:t.length≤1000)(ht0:0<(ah t 0).2.2.2.2.length)(hlv1:0≤lv∧lv≤8)(hlt8:∀i:Nat,0≤(ah t i).2.1∧(ah t i).2.1≤8)
  (hpt:∀i j:Nat,tY (elt (dflt uPort) (ah t (i:Nat)).2.2.2.2 (j:Nat)).1) (hy:ak xs (y,0)) (htop:ak (xs++jK lv ((xs.length:Nat)-1:Int) t (t.length-1)) (((xs.length:Nat)-1:Int)+(aF t (0,0)).1,(aF t (0,0)).2)):
  FCall Tryz.prog 189 [.rp uNet t,.ptr 10000 0,.int .i64 x,.int .i64 y] (tB xs us pk tr) (.tup []) (QY 10003 (fE t lv xs y) us pk tr):=by
 subst hlv0;refine FCall.intro (nt:=99) ti_ok mixed TJ Tryz.func189 rfl rfl rfl rfl rfl rfl ?_;refine aI hx ?_;have hwb:IntKind.i64.wrap ((xs.length:Nat)-1)=((xs.length:Nat)-1:Int):=IntWalk.i64_in _ (by omega);generalize hlve:(ah xs x).2.1=lv at*;refine lp Nat (fun k=>[(10,.int .i64 ((k+1:Nat):Int)),(8,.int .i64 lv),(9,.int .i64 ((xs.length:Nat)-1:Int))]) (fun k=>[.cel 10000 124 [.sl 20000,.sl 10002,.int .i64 pk],.row 20000 150 5 uAgent (xs++jK lv ((xs.length:Nat)-1:Int) t k) us,.row 10002 2 1 (.int .i64) tr []]) (fun k=>t.length-1-k) (fun k=>k+1≤t.length) 0 ht ?_ ?_
 ·refine hd [(20000,10001)] rfl (aI (aI rfl rfl) (aI (aI hlve rfl) (aI (aI hwb rfl) trivial))) ⟨trivial,⟨rfl,rfl,⟨rfl,rfl⟩,trivial⟩,⟨?_,pR _⟩,⟨rfl,nP⟩,trivial⟩;show xs=(xs++jK lv ((xs.length:Nat)-1:Int) t 0);unfold jK;simp
 intro k hk;refine aI (fun q1=> ?_) (fun q1=> ?_)
 ·have hlt:k+1<t.length:=by
   have q2:decide (((k+1:Nat):Int)<(t.length:Nat))=true:=q1;have q3:((k+1:Nat):Int)<(t.length:Nat):=by simpa using q2
   omega
  refine aI (show 0≤((k+1:Nat):Int)∧((k+1:Nat):Int)<(t.length:Nat) by omega) ?_;refine Or.inr (eI _ (eI _ (aI (JQ (ah t ((k+1:Nat):Int)) (hs.2 (k+1)).1 (hs.2 (k+1)).2) ?_)));refine Or.inl (eI _ (aI (Dt _) ?_));have hl8:=hlt8 (k+1);refine aI (fun q2=> ?_) (fun q2=> ?_)
  ·have hlev:bW (ah t ((k+1:Nat):Int)).1=true:=q2;refine lp Nat (fun j=>[(12,.int .i64 (j:Nat))]) (fun j=>[.cel 11 150 [.int .i64 (ah t ((k+1:Nat):Int)).1,.int .i64 (IntKind.i64.wrap ((ah t ((k+1:Nat):Int)).2.1+lv)),.int .i64 (ah t ((k+1:Nat):Int)).2.2.1,.sl 43,.sl 21001],.cel 10000 124 [.sl 21000,.sl 10002,.int .i64 pk],.row 21000 150 5 uAgent (xs++jK lv ((xs.length:Nat)-1:Int) t k) us,.row 10002 2 1 (.int .i64) tr [],.row 43 2 1 (.int .i64) (ah t ((k+1:Nat):Int)).2.2.2.1 [],.row 21001 104 2 uPort (d9 ((xs.length:Nat)-1:Int) (ah t ((k+1:Nat):Int)).2.2.2.2 j) []]) (fun j=>(ah t ((k+1:Nat):Int)).2.2.2.2.length-j) (fun j=>j≤(ah t ((k+1:Nat):Int)).2.2.2.2.length) 0 (Nat.zero_le _) ?_ ?_
   ·exact hd [(21000,20000),(21001,1000043)] rfl (aI (aI rfl rfl) trivial) ⟨trivial,⟨⟨rfl,rfl⟩,⟨rfl,rfl⟩,⟨rfl,rfl⟩,rfl,rfl,trivial⟩,trivial,⟨rfl,rfl,⟨rfl,rfl⟩,trivial⟩,⟨rfl,pR _⟩,⟨rfl,nP⟩,⟨rfl,nP⟩,⟨rfl,nP⟩,trivial⟩
   intro j hj;refine aI (fun q3=> ?_) (fun q3=> ?_)
   ·have hlt2:j<(ah t ((k+1:Nat):Int)).2.2.2.2.length:=by
     have q4:decide (((j:Nat):Int)<((d9 ((xs.length:Nat)-1:Int) (ah t ((k+1:Nat):Int)).2.2.2.2 j).length:Nat))=true:=q3;rw[jf]at q4;simpa using q4
    have hpv:tY (elt (dflt uPort) (ah t ((k+1:Nat):Int)).2.2.2.2 (j:Nat)).1:=hpt (k+1) j;unfold tY at hpv;have hps:(ah t ((k+1:Nat):Int)).2.2.2.2.length≤1048576:=(hs.2 (k+1)).2;have hat:elt (dflt uPort) (d9 ((xs.length:Nat)-1:Int) (ah t ((k+1:Nat):Int)).2.2.2.2 j) (j:Nat)=elt (dflt uPort) (ah t ((k+1:Nat):Int)).2.2.2.2 (j:Nat):=uJ hlt2;have hw:IntKind.i64.wrap ((elt (dflt uPort) (ah t ((k+1:Nat):Int)).2.2.2.2 (j:Nat)).1+((xs.length:Nat)-1:Int))=(elt (dflt uPort) (ah t ((k+1:Nat):Int)).2.2.2.2 (j:Nat)).1+((xs.length:Nat)-1:Int):=IntWalk.i64_in _ (by omega)
    have hbnd:0≤((j:Nat):Int)∧((j:Nat):Int)<((d9 ((xs.length:Nat)-1:Int) (ah t ((k+1:Nat):Int)).2.2.2.2 j).length:Nat):=by rw[jf];omega
    refine aI hbnd ?_;refine aI hbnd ?_;refine lp_next (j+1) hlt2 ?_ ?_
    ·refine hd [] rfl (aI (aI (wrapS (by omega)) rfl) trivial) ⟨trivial,⟨⟨rfl,rfl⟩,⟨rfl,rfl⟩,⟨rfl,rfl⟩,rfl,rfl,trivial⟩,trivial,⟨rfl,rfl,⟨rfl,rfl⟩,trivial⟩,⟨rfl,pR _⟩,⟨rfl,nP⟩,⟨rfl,nP⟩,⟨?_,nP⟩,trivial⟩;show(d9 ((xs.length:Nat)-1:Int) (ah t ((k+1:Nat):Int)).2.2.2.2 j).set j (IntKind.i64.wrap ((elt (dflt uPort) (d9 ((xs.length:Nat)-1:Int) (ah t ((k+1:Nat):Int)).2.2.2.2 j) (j:Nat)).1+((xs.length:Nat)-1:Int)),(elt (dflt uPort) (d9 ((xs.length:Nat)-1:Int) (ah t ((k+1:Nat):Int)).2.2.2.2 j) (j:Nat)).2)=d9 ((xs.length:Nat)-1:Int) (ah t ((k+1:Nat):Int)).2.2.2.2 (j+1)
     rw[sw hlt2,hat,hw]
    ·show(ah t ((k+1:Nat):Int)).2.2.2.2.length-(j+1)<(ah t ((k+1:Nat):Int)).2.2.2.2.length-j;omega
   have hje:j=(ah t ((k+1:Nat):Int)).2.2.2.2.length:=by
    have q4:decide (((j:Nat):Int)<((d9 ((xs.length:Nat)-1:Int) (ah t ((k+1:Nat):Int)).2.2.2.2 j).length:Nat))=false:=q3;rw[jf]at q4;have q5:(ah t ((k+1:Nat):Int)).2.2.2.2.length≤j:=by simpa using q4
    omega
   refine aI (by show(xs++jK lv ((xs.length:Nat)-1:Int) t k).length+1≤_;rw[List.length_append,Ah (by omega)];have:=hs.1;omega) ?_;refine aI (by kernel_rfl) ?_;refine lp_next (k+1) (by show k+1+1≤t.length;omega) ?_ ?_
   ·refine hd [(20000,76)] rfl (aI (aI (wrapS (by have:=hs.1;omega)) rfl) (aI (aI rfl rfl) (aI (aI rfl rfl) trivial))) ⟨trivial,⟨rfl,rfl,⟨rfl,rfl⟩,trivial⟩,⟨?_,pR _⟩,⟨rfl,nP⟩,trivial⟩;show(xs++jK lv ((xs.length:Nat)-1:Int) t k)++[((ah t ((k+1:Nat):Int)).1,(IntKind.i64.wrap ((ah t ((k+1:Nat):Int)).2.1+lv)),(ah t ((k+1:Nat):Int)).2.2.1,(ah t ((k+1:Nat):Int)).2.2.2.1,d9 ((xs.length:Nat)-1:Int) (ah t ((k+1:Nat):Int)).2.2.2.2 j)]=(xs++jK lv ((xs.length:Nat)-1:Int) t (k+1));rw[yj hlt,hje,uI,List.append_assoc]
    congr 2
    unfold dA jq;rw[show bW (ah t ((k+1:Nat):Int)).kind=true from hlev,IntWalk.i64_in _ (by omega)];rfl
   ·show t.length-1-(k+1)<t.length-1-k;omega
  ·have hlev:bW (ah t ((k+1:Nat):Int)).1=false:=q2;refine lp Nat (fun j=>[(12,.int .i64 (j:Nat))]) (fun j=>[.cel 11 150 [.int .i64 (ah t ((k+1:Nat):Int)).1,.int .i64 (ah t ((k+1:Nat):Int)).2.1,.int .i64 (ah t ((k+1:Nat):Int)).2.2.1,.sl 43,.sl 21001],.cel 10000 124 [.sl 21000,.sl 10002,.int .i64 pk],.row 21000 150 5 uAgent (xs++jK lv ((xs.length:Nat)-1:Int) t k) us,.row 10002 2 1 (.int .i64) tr [],.row 43 2 1 (.int .i64) (ah t ((k+1:Nat):Int)).2.2.2.1 [],.row 21001 104 2 uPort (d9 ((xs.length:Nat)-1:Int) (ah t ((k+1:Nat):Int)).2.2.2.2 j) []]) (fun j=>(ah t ((k+1:Nat):Int)).2.2.2.2.length-j) (fun j=>j≤(ah t ((k+1:Nat):Int)).2.2.2.2.length) 0 (Nat.zero_le _) ?_ ?_
   ·exact hd [(21000,20000),(21001,1000043)] rfl (aI (aI rfl rfl) trivial) ⟨trivial,⟨⟨rfl,rfl⟩,⟨rfl,rfl⟩,⟨rfl,rfl⟩,rfl,rfl,trivial⟩,trivial,⟨rfl,rfl,⟨rfl,rfl⟩,trivial⟩,⟨rfl,pR _⟩,⟨rfl,nP⟩,⟨rfl,nP⟩,⟨rfl,nP⟩,trivial⟩
   intro j hj;refine aI (fun q3=> ?_) (fun q3=> ?_)
   ·have hlt2:j<(ah t ((k+1:Nat):Int)).2.2.2.2.length:=by
     have q4:decide (((j:Nat):Int)<((d9 ((xs.length:Nat)-1:Int) (ah t ((k+1:Nat):Int)).2.2.2.2 j).length:Nat))=true:=q3;rw[jf]at q4;simpa using q4
    have hpv:tY (elt (dflt uPort) (ah t ((k+1:Nat):Int)).2.2.2.2 (j:Nat)).1:=hpt (k+1) j;unfold tY at hpv;have hps:(ah t ((k+1:Nat):Int)).2.2.2.2.length≤1048576:=(hs.2 (k+1)).2;have hat:elt (dflt uPort) (d9 ((xs.length:Nat)-1:Int) (ah t ((k+1:Nat):Int)).2.2.2.2 j) (j:Nat)=elt (dflt uPort) (ah t ((k+1:Nat):Int)).2.2.2.2 (j:Nat):=uJ hlt2;have hw:IntKind.i64.wrap ((elt (dflt uPort) (ah t ((k+1:Nat):Int)).2.2.2.2 (j:Nat)).1+((xs.length:Nat)-1:Int))=(elt (dflt uPort) (ah t ((k+1:Nat):Int)).2.2.2.2 (j:Nat)).1+((xs.length:Nat)-1:Int):=IntWalk.i64_in _ (by omega)
    have hbnd:0≤((j:Nat):Int)∧((j:Nat):Int)<((d9 ((xs.length:Nat)-1:Int) (ah t ((k+1:Nat):Int)).2.2.2.2 j).length:Nat):=by rw[jf];omega
    refine aI hbnd ?_;refine aI hbnd ?_;refine lp_next (j+1) hlt2 ?_ ?_
    ·refine hd [] rfl (aI (aI (wrapS (by omega)) rfl) trivial) ⟨trivial,⟨⟨rfl,rfl⟩,⟨rfl,rfl⟩,⟨rfl,rfl⟩,rfl,rfl,trivial⟩,trivial,⟨rfl,rfl,⟨rfl,rfl⟩,trivial⟩,⟨rfl,pR _⟩,⟨rfl,nP⟩,⟨rfl,nP⟩,⟨?_,nP⟩,trivial⟩;show(d9 ((xs.length:Nat)-1:Int) (ah t ((k+1:Nat):Int)).2.2.2.2 j).set j (IntKind.i64.wrap ((elt (dflt uPort) (d9 ((xs.length:Nat)-1:Int) (ah t ((k+1:Nat):Int)).2.2.2.2 j) (j:Nat)).1+((xs.length:Nat)-1:Int)),(elt (dflt uPort) (d9 ((xs.length:Nat)-1:Int) (ah t ((k+1:Nat):Int)).2.2.2.2 j) (j:Nat)).2)=d9 ((xs.length:Nat)-1:Int) (ah t ((k+1:Nat):Int)).2.2.2.2 (j+1)
     rw[sw hlt2,hat,hw]
    ·show(ah t ((k+1:Nat):Int)).2.2.2.2.length-(j+1)<(ah t ((k+1:Nat):Int)).2.2.2.2.length-j;omega
   have hje:j=(ah t ((k+1:Nat):Int)).2.2.2.2.length:=by
    have q4:decide (((j:Nat):Int)<((d9 ((xs.length:Nat)-1:Int) (ah t ((k+1:Nat):Int)).2.2.2.2 j).length:Nat))=false:=q3;rw[jf]at q4;have q5:(ah t ((k+1:Nat):Int)).2.2.2.2.length≤j:=by simpa using q4
    omega
   refine aI (by show(xs++jK lv ((xs.length:Nat)-1:Int) t k).length+1≤_;rw[List.length_append,Ah (by omega)];have:=hs.1;omega) ?_;refine aI (by kernel_rfl) ?_;refine lp_next (k+1) (by show k+1+1≤t.length;omega) ?_ ?_
   ·refine hd [(20000,76)] rfl (aI (aI (wrapS (by have:=hs.1;omega)) rfl) (aI (aI rfl rfl) (aI (aI rfl rfl) trivial))) ⟨trivial,⟨rfl,rfl,⟨rfl,rfl⟩,trivial⟩,⟨?_,pR _⟩,⟨rfl,nP⟩,trivial⟩;show(xs++jK lv ((xs.length:Nat)-1:Int) t k)++[((ah t ((k+1:Nat):Int)).1,(ah t ((k+1:Nat):Int)).2.1,(ah t ((k+1:Nat):Int)).2.2.1,(ah t ((k+1:Nat):Int)).2.2.2.1,d9 ((xs.length:Nat)-1:Int) (ah t ((k+1:Nat):Int)).2.2.2.2 j)]=(xs++jK lv ((xs.length:Nat)-1:Int) t (k+1));rw[yj hlt,hje,uI,List.append_assoc]
    congr 2
    unfold dA jq;rw[show bW (ah t ((k+1:Nat):Int)).kind=false from hlev];rfl
   ·show t.length-1-(k+1)<t.length-1-k;omega
 ·have hke:k=t.length-1:=by
   have q2:decide (((k+1:Nat):Int)<(t.length:Nat))=false:=q1;have q3:(t.length:Nat)≤((k+1:Nat):Int):=by simpa using q2
   omega
  subst hke;refine aI (show(0:Int)≤0∧(0:Int)<(t.length:Nat) by omega) ?_;refine aI (show(0:Int)≤0∧(0:Int)<((ah t 0).2.2.2.2.length:Nat) by omega) ?_;have hp0:tY (aF t (0,0)).1:=hpt 0 0;unfold tY at hp0;have hw:IntKind.i64.wrap (((xs.length:Nat)-1:Int)+(aF t (0,0)).1)=((xs.length:Nat)-1:Int)+(aF t (0,0)).1:=IntWalk.i64_in _ (by omega);have hlk:=Hu (xs++jK lv ((xs.length:Nat)-1:Int) t (t.length-1)) us pk tr (((xs.length:Nat)-1:Int)+(aF t (0,0)).1,(aF t (0,0)).2) (y,0) htop hy.app;rw[←hw]at hlk
  refine Or.inl (eI _ (aI (bV _ _) ?_));refine Or.inl (eI _ (aI (bV y 0) ?_));refine Or.inr (eI _ (eI _ (aI hlk ?_)));refine fin [(10003,20000)] (aI rfl ?_);refine⟨trivial,⟨rfl,rfl,⟨rfl,rfl⟩,trivial⟩,⟨?_,pR _⟩,⟨rfl,nP⟩,trivial⟩;show bQ (xs++jK lv ((xs.length:Nat)-1:Int) t (t.length-1)) (IntKind.i64.wrap (((xs.length:Nat)-1:Int)+(aF t (0,0)).1),(aF t (0,0)).2) (y,0)=fE t lv xs y;rw[hw];rfl
theorem yA:callOk Tryz.prog 182=true:=by kernel_rfl
theorem KY(bk:List (List NAgent))(xs:List NAgent)(a b:Int)(ha:0≤a∧a<(xs.length:Nat))(hb:0≤b∧b<(xs.length:Nat))(hs:∀i:Nat,NetSmall (bR bk i))(hv:bP (ah xs (firstS xs a b).1) (ah xs (firstS xs a b).2)=7→0≤(ah xs (firstS xs a b).1).2.2.1):
  aR Tryz.prog 182 [.rsl uNet bk,.rp uNet xs,.int .i64 a,.int .i64 b] (.tup [.int .i64 (iw bk (ah xs (firstS xs a b).1) (ah xs (firstS xs a b).2)).1,.int .i64 (iw bk (ah xs (firstS xs a b).1) (ah xs (firstS xs a b).2)).2]):=by
 obtain⟨h1,h2⟩:=firstS_in (xs:=xs) ha hb;refine aR.intro (nt:=92) ti_ok mixed yA Tryz.func182 rfl rfl rfl rfl rfl ?_;refine Or.inl (eI _ (aI (firstQ xs a b ha hb) ?_));refine aI h1 ?_;refine aI h2 ?_;refine Or.inl (eI _ (aI (Rp (ah xs (firstS xs a b).1) (ah xs (firstS xs a b).2)) ?_));refine aI (fun q1=> ?_) (fun q1=> ?_)
 ·have e:iw bk (ah xs (firstS xs a b).1) (ah xs (firstS xs a b).2)=(0,11):=by have b:((bP (ah xs (firstS xs a b).1) (ah xs (firstS xs a b).2))==8)=true:=q1;simp only[iw,b,cond_true]
  rw[e];exact rfl
 have b8:((bP (ah xs (firstS xs a b).1) (ah xs (firstS xs a b).2))==8)=false:=q1;have fin0:∀z:Int,((bP (ah xs (firstS xs a b).1) (ah xs (firstS xs a b).2))==7)=false→sH bk (bP (ah xs (firstS xs a b).1) (ah xs (firstS xs a b).2)) (ah xs (firstS xs a b).1) (ah xs (firstS xs a b).2)=z→iw bk (ah xs (firstS xs a b).1) (ah xs (firstS xs a b).2)=((dS (bP (ah xs (firstS xs a b).1) (ah xs (firstS xs a b).2)) z).1,0):=fun z h e=>by simp only[iw,b8,h,cond_false,e]
 refine aI (fun q2=> ?_) (fun q2=> ?_)
 ·refine aI (fun _=> ?_) (fun h=>by rw[show((bP (ah xs (firstS xs a b).1) (ah xs (firstS xs a b).2))==3)=true from q2]at h;cases h);refine Or.inl (eI _ (aI (Am _ _) ?_));have b3:((bP (ah xs (firstS xs a b).1) (ah xs (firstS xs a b).2))==3)=true:=q2;have c3:(bP (ah xs (firstS xs a b).1) (ah xs (firstS xs a b).2))=3:=by simpa using b3
  have e:=fin0 (IntKind.i64.wrap (((ah xs (firstS xs a b).2).2.2.2.2.length:Nat)-1)) (by rw[c3];rfl) (by simp only[sH,b3,cond_true]);rw[e];exact rfl
 have b3:((bP (ah xs (firstS xs a b).1) (ah xs (firstS xs a b).2))==3)=false:=q2;refine aI (fun q3=> ?_) (fun q3=> ?_)
 ·refine Or.inl (eI _ (aI (Am _ _) ?_));have b4:((bP (ah xs (firstS xs a b).1) (ah xs (firstS xs a b).2))==4)=true:=q3;have c4:(bP (ah xs (firstS xs a b).1) (ah xs (firstS xs a b).2))=4:=by simpa using b4
  have e:=fin0 (IntKind.i64.wrap (((ah xs (firstS xs a b).2).2.2.2.2.length:Nat)-1)) (by rw[c4];rfl) (by simp only[sH,b3,b4,cond_true,cond_false]);rw[e];exact rfl
 have b4:((bP (ah xs (firstS xs a b).1) (ah xs (firstS xs a b).2))==4)=false:=q3;refine aI (fun q4=> ?_) (fun q4=> ?_)
 ·refine Or.inl (eI _ (aI (Ox _) ?_));refine Or.inl (eI _ (aI (Am _ _) ?_));have b6:((bP (ah xs (firstS xs a b).1) (ah xs (firstS xs a b).2))==6)=true:=q4;have c6:(bP (ah xs (firstS xs a b).1) (ah xs (firstS xs a b).2))=6:=by simpa using b6
  have e:=fin0 (nT (ah xs (firstS xs a b).1)) (by rw[c6];rfl) (by simp only[sH,b3,b4,b6,cond_true,cond_false]);rw[e];exact rfl
 have b6:((bP (ah xs (firstS xs a b).1) (ah xs (firstS xs a b).2))==6)=false:=q4;refine aI (fun q5=> ?_) (fun q5=> ?_)
 ·have b7:((bP (ah xs (firstS xs a b).1) (ah xs (firstS xs a b).2))==7)=true:=q5;have c7:(bP (ah xs (firstS xs a b).1) (ah xs (firstS xs a b).2))=7:=by simpa using b7
  have v0:=hv c7;have ek:bR bk (ah xs (firstS xs a b).1).2.2.1=bR bk ((ah xs (firstS xs a b).1).2.2.1.toNat:Nat):=by unfold bR;exact Om (by omega)
  have hsm:(bR bk (ah xs (firstS xs a b).1).2.2.1).length≤2000000:=by rw[ek];have:=(hs (ah xs (firstS xs a b).1).2.2.1.toNat).1;omega
  refine aI (fun q6=> ?_) (fun q6=> ?_)
  ·have q7:decide ((bk.length:Int)≤(ah xs (firstS xs a b).1).2.2.1)=true:=q6;have e:iw bk (ah xs (firstS xs a b).1) (ah xs (firstS xs a b).2)=(0,3):=by simp only[iw,b8,b7,q7,cond_true,cond_false]
   rw[e];exact rfl
  have q7:decide ((bk.length:Int)≤(ah xs (firstS xs a b).1).2.2.1)=false:=q6;have hlt:(ah xs (firstS xs a b).1).2.2.1<(bk.length:Nat):=by simpa using q7
  refine aI ⟨v0,hlt⟩ ?_;refine aI ⟨v0,hlt⟩ ?_;refine Or.inl (eI _ (aI (Zt (bR bk (ah xs (firstS xs a b).1).2.2.1) hsm) ?_));refine aI (by kernel_rfl) ?_;refine aI (fun q8=> ?_) (fun q8=> ?_)
  ·have q9:decide (8<IntKind.i64.wrap (mH (bR bk (ah xs (firstS xs a b).1).2.2.1) (bR bk (ah xs (firstS xs a b).1).2.2.1).length+(ah xs (firstS xs a b).1).2.1))=true:=q8;have e:iw bk (ah xs (firstS xs a b).1) (ah xs (firstS xs a b).2)=(0,9):=by simp only[iw,b8,b7,q7,q9,cond_true,cond_false]
   rw[e];exact rfl
  have q9:decide (8<IntKind.i64.wrap (mH (bR bk (ah xs (firstS xs a b).1).2.2.1) (bR bk (ah xs (firstS xs a b).1).2.2.1).length+(ah xs (firstS xs a b).1).2.1))=false:=q8;refine Or.inl (eI _ (aI (Am _ _) ?_))
  have e:iw bk (ah xs (firstS xs a b).1) (ah xs (firstS xs a b).2)=((dS 7 ((bR bk (ah xs (firstS xs a b).1).2.2.1).length:Nat)).1,0):=by
   have e7:sH bk 7 (ah xs (firstS xs a b).1) (ah xs (firstS xs a b).2)=((bR bk (ah xs (firstS xs a b).1).2.2.1).length:Nat):=rfl;simp only[iw,b8,b7,q7,q9,cond_true,cond_false,e7]
  rw[e,←c7];exact rfl
 have b7:((bP (ah xs (firstS xs a b).1) (ah xs (firstS xs a b).2))==7)=false:=q5;refine Or.inl (eI _ (aI (Am _ _) ?_));have e:=fin0 0 b7 (by simp only[sH,b3,b4,b6,b7,cond_false]);rw[e];exact rfl
theorem M9:callOk Tryz.prog 126=true:=by kernel_rfl
section
variable (bk:List (List NAgent))(xs:List NAgent)(us:List Value)(a b:Int)(ha:0≤a∧a<(xs.length:Nat))(hb:0≤b∧b<(xs.length:Nat))(hs:∀i:Nat,NetSmall (bR bk i))(hlx:xs.length≤800000)(hv:bP (ah xs (firstS xs a b).1) (ah xs (firstS xs a b).2)=7→0≤(ah xs (firstS xs a b).1).2.2.1)
include ha hb hs hlx hv
theorem Zak{g:Int}(hge:iw bk (ah xs (firstS xs a b).1) (ah xs (firstS xs a b).2)=(g,0))(hf:600<IntKind.i64.wrap ((bU xs xs.length:Nat)+g)):FCall Tryz.prog 126 [.rsl uNet bk,.ptr 10000 0,.int .i64 a,.int .i64 b] (tA xs us) (.int .i64 4) (tA xs us):=by
 have hg:=KY bk xs a b ha hb hs hv;rw[hge]at hg;refine FCall.intro (nt:=134) ti_ok mixed M9 Tryz.func126 rfl rfl rfl rfl rfl rfl ?_;refine Or.inr (eI _ (eI _ (aI (FCall.of_q ti_ok [0,71,0,0] yA hg rfl) ?_)));refine aI (fun q1=>by cases q1) (fun q1=> ?_);refine Or.inr (eI _ (eI _ (aI (FCall.of_q ti_ok [71] okLive (liveQ xs (by omega)) rfl) ?_)));refine aI (fun q2=> ?_) (fun q2=> ?_)
 ·refine fin [] (aI ⟨rfl,rfl⟩ ?_);exact⟨trivial,⟨rfl,trivial⟩,⟨rfl,pR _⟩,trivial⟩
 ·have q3:decide (600<IntKind.i64.wrap ((bU xs xs.length:Nat)+g))=false:=q2;simp only[decide_eq_false_iff_not]at q3;exact absurd hf q3
theorem doOkA{c x y g:Int}(hf:firstS xs a b=(x,y))(hc:bP (ah xs x) (ah xs y)=c)(hge:iw bk (ah xs x) (ah xs y)=(g,0))(hc7:1≤c∧c≤7)(hp:IQ xs c x y)(hA:bG xs)(h0:ak xs (0,0))(h7:c=7→0≤(ah xs x).2.2.1∧(ah xs x).2.2.1<(bk.length:Nat))(hn:¬600<IntKind.i64.wrap ((bU xs xs.length:Nat)+g))
  (hE:c=7→∀us,FCall Tryz.prog 189 [.rp uNet (bR bk (ah xs x).2.2.1),.ptr 10000 0,.int .i64 x,.int .i64 y] (tA xs us) (.tup []) (QX 10002 (fE (bR bk (ah xs x).2.2.1) (ah xs x).2.1 xs y) us)):
  FCall Tryz.prog 126 [.rsl uNet bk,.ptr 10000 0,.int .i64 a,.int .i64 b] (tA xs us) (.int .i64 0) (QX 10002 (gG bk xs c x y) []):=by
 have hg:=KY bk xs a b ha hb hs hv;have hfst:=firstQ xs a b ha hb;rw[hf]at hg hfst;rw[show(x,y).1=x from rfl,show(x,y).2=y from rfl,hge]at hg;rw[show(x,y).1=x from rfl,show(x,y).2=y from rfl]at hfst;obtain⟨⟨hx0,hy0,p12,p3,px,py,dy,p5,p6⟩,k5,k6⟩:=hp;refine FCall.jO 10001 M9 ?_;refine aI (fun _ us' hpre hlen=> ?_) (fun h=>absurd rfl h)
 skip
 refine FCall.intro (nt:=134) ti_ok mixed M9 Tryz.func126 rfl rfl rfl rfl rfl rfl ?_;refine Or.inr (eI _ (eI _ (aI (FCall.of_q ti_ok [0,71,0,0] yA hg rfl) ?_)));refine aI (fun q1=>by cases q1) (fun q1=> ?_);refine Or.inr (eI _ (eI _ (aI (FCall.of_q ti_ok [71] okLive (liveQ xs (by omega)) rfl) ?_)));refine aI (fun q2=> ?_) (fun q2=> ?_)
 ·have q3:decide (600<IntKind.i64.wrap ((bU xs xs.length:Nat)+g))=true:=q2;simp only[decide_eq_true_eq]at q3;exact absurd q3 hn
 refine Or.inr (eI _ (eI _ (aI (FCall.of_q ti_ok [71,0,0] okFirstS hfst rfl) ?_)));refine aI hx0 ?_;refine aI hy0 ?_;have hce:=classE xs us' x y;rw[hc]at hce;refine Or.inr (eI _ (eI _ (aI hce ?_)));refine aI (by kernel_rfl) ?_;refine aI (fun b1=> ?_) (fun b1=> ?_)
 ·have c1:c=1:=by have b:(c==1)=true:=b1;simpa using b
  have n7:(c==7)=false:=by rw[c1];rfl
  refine aI (fun _=> ?_) (fun h=>by rw[show(c==1)=true from b1]at h;cases h);obtain⟨j1,j2,j3,j4⟩:=p12 (.inl c1);refine Or.inl (eI _ (aI (bV _ _) ?_));refine Or.inl (eI _ (aI (bV _ _) ?_));refine Or.inr (eI _ (eI _ (aI (OH xs us' (x,1) (y,1) j1 j3 (hA _ j1) (hA _ j3)) ?_)));have hA1:=hA.join j1 j3;refine Or.inl (eI _ (aI (bV _ _) ?_));refine Or.inl (eI _ (aI (bV _ _) ?_));refine Or.inr (eI _ (eI _ (aI (OH (aT xs (x,1) (y,1)) us' (x,2) (y,2) j2.join j4.join (hA1 _ j2.join) (hA1 _ j4.join)) ?_)));have hll:xs.length≤(aT (aT xs (x,1) (y,1)) (x,2) (y,2)).length:=by rw[mX,mX];exact Nat.le_refl _
  have hlx2:0≤x∧x<((aT (aT xs (x,1) (y,1)) (x,2) (y,2)).length:Nat):=by omega
  have hly:0≤y∧y<((aT (aT xs (x,1) (y,1)) (x,2) (y,2)).length:Nat):=by omega
  refine Or.inr (eI _ (eI _ (aI (lK (aT (aT xs (x,1) (y,1)) (x,2) (y,2)) us' x hlx2) ?_)));refine aI (fun _=> ?_) (fun q7=>by have q8:(c !=7)=false:=q7;rw[c1]at q8;cases q8);refine Or.inr (eI _ (eI _ (aI (lK (bE (aT (aT xs (x,1) (y,1)) (x,2) (y,2)) x) [] y (by rw[fD];exact hly)) ?_)));refine fin [(10002,10001)] (aI ⟨rfl,rfl⟩ ?_);refine⟨trivial,⟨rfl,trivial⟩,⟨?_,nP⟩,trivial⟩;show bE (bE (aT (aT xs (x,1) (y,1)) (x,2) (y,2)) x) y=gG bk xs c x y;simp only[gG,iE,b1,n7,cond_true,cond_false]
 refine aI (fun b2=> ?_) (fun b2=> ?_)
 ·have c2:c=2:=by have b:(c==2)=true:=b2;simpa using b
  have n7:(c==7)=false:=by rw[c2];rfl
  obtain⟨j1,j2,j3,j4⟩:=p12 (.inr c2);refine Or.inl (eI _ (aI (bV _ _) ?_));refine Or.inl (eI _ (aI (bV _ _) ?_));refine Or.inr (eI _ (eI _ (aI (OH xs us' (x,1) (y,1) j1 j3 (hA _ j1) (hA _ j3)) ?_)));have hA1:=hA.join j1 j3;refine Or.inl (eI _ (aI (bV _ _) ?_));refine Or.inl (eI _ (aI (bV _ _) ?_));refine Or.inr (eI _ (eI _ (aI (OH (aT xs (x,1) (y,1)) us' (x,2) (y,2) j2.join j4.join (hA1 _ j2.join) (hA1 _ j4.join)) ?_)));have hll:xs.length≤(aT (aT xs (x,1) (y,1)) (x,2) (y,2)).length:=by rw[mX,mX];exact Nat.le_refl _
  have hlx2:0≤x∧x<((aT (aT xs (x,1) (y,1)) (x,2) (y,2)).length:Nat):=by omega
  have hly:0≤y∧y<((aT (aT xs (x,1) (y,1)) (x,2) (y,2)).length:Nat):=by omega
  refine Or.inr (eI _ (eI _ (aI (lK (aT (aT xs (x,1) (y,1)) (x,2) (y,2)) us' x hlx2) ?_)));refine aI (fun _=> ?_) (fun q7=>by have q8:(c !=7)=false:=q7;rw[c2]at q8;cases q8);refine Or.inr (eI _ (eI _ (aI (lK (bE (aT (aT xs (x,1) (y,1)) (x,2) (y,2)) x) [] y (by rw[fD];exact hly)) ?_)));refine fin [(10002,10001)] (aI ⟨rfl,rfl⟩ ?_);refine⟨trivial,⟨rfl,trivial⟩,⟨?_,nP⟩,trivial⟩;show bE (bE (aT (aT xs (x,1) (y,1)) (x,2) (y,2)) x) y=gG bk xs c x y;simp only[gG,iE,b1,b2,n7,cond_true,cond_false]
 refine aI (fun b3=> ?_) (fun b3=> ?_)
 ·have c3:c=3:=by have b:(c==3)=true:=b3;simpa using b
  have n7:(c==7)=false:=by rw[c3];rfl
  obtain⟨j1,j2⟩:=p3 c3;refine Or.inr (eI _ (eI _ (aI (dupA xs us' x y hA h0 (by omega) j1 j2 hy0 py.2 dy py.1) ?_)));have hll:xs.length≤(bL xs x y).length:=by exact yR xs x y
  have hlx2:0≤x∧x<((bL xs x y).length:Nat):=by omega
  have hly:0≤y∧y<((bL xs x y).length:Nat):=by omega
  refine Or.inr (eI _ (eI _ (aI (lK (bL xs x y) us' x hlx2) ?_)));refine aI (fun _=> ?_) (fun q7=>by have q8:(c !=7)=false:=q7;rw[c3]at q8;cases q8);refine Or.inr (eI _ (eI _ (aI (lK (bE (bL xs x y) x) [] y (by rw[fD];exact hly)) ?_)));refine fin [(10002,72)] (aI ⟨rfl,rfl⟩ ?_);refine⟨trivial,⟨rfl,trivial⟩,⟨?_,nP⟩,trivial⟩;show bE (bE (bL xs x y) x) y=gG bk xs c x y;simp only[gG,iE,b1,b2,b3,n7,cond_true,cond_false]
 refine aI (fun b4=> ?_) (fun b4=> ?_)
 ·have c4:c=4:=by have b:(c==4)=true:=b4;simpa using b
  have n7:(c==7)=false:=by rw[c4];rfl
  have hyk:∀i:Nat,i<((ah xs y).2.2.2.2.length-1)→ak xs (y,((i+1:Nat):Int)):=fun i hi=>⟨hy0.1,hy0.2,by omega,by show((i+1:Nat):Int)<((ah xs y).2.2.2.2.length:Nat);omega⟩
  refine aI hy0 ?_;refine aI (tJ hlen hy0.1 hy0.2) ?_;refine lp Nat (fun k=>[(13,.int .i64 ((k+1:Nat):Int)),(12,.int .i64 ((ah xs y).2.2.2.2.length:Nat))]) (fun k=>[.cel 10000 36 [.sl 20000],.row 20000 150 5 uAgent (sS y xs k) us']) (fun k=>((ah xs y).2.2.2.2.length-1)-k) (fun k=>k≤((ah xs y).2.2.2.2.length-1)) 0 (Nat.zero_le _) ?_ ?_
  ·exact hd [(20000,10001)] rfl (aI (aI rfl rfl) (aI (aI rfl rfl) trivial)) ⟨trivial,⟨rfl,trivial⟩,⟨rfl,pR _⟩,trivial⟩
  intro k hk;refine aI (fun q4=> ?_) (fun q4=> ?_)
  ·have hlt:k<((ah xs y).2.2.2.2.length-1):=by
    have q5:decide (((k+1:Nat):Int)<((ah xs y).2.2.2.2.length:Nat))=true:=q4;have q6:((k+1:Nat):Int)<((ah xs y).2.2.2.2.length:Nat):=by simpa using q5
    omega
   have hadd:=uX (sS y xs k) us' 5 0 0 1 (by rw[kC];omega) (by omega);rw[kC]at hadd;refine Or.inr (eI _ (eI _ (aI hadd ?_)));refine Or.inl (eI _ (aI (bV _ _) ?_));refine Or.inl (eI _ (aI (bV _ _) ?_));refine Or.inr (eI _ (eI _ (aI (moveA (sS y xs k++[bD 5 0 0 [] 1]) us' (y,((k+1:Nat):Int)) (((xs.length+k:Nat):Int),0) ((yh hA h0 k fun i hi=>hyk i (by omega)).add (pO h0 k) _ _ _ _ _) (pO (hyk k hlt) k).app (Af k)) ?_)));refine lp_next (k+1) (by omega) ?_ ?_
   ·exact hd [(20000,90)] rfl (aI (aI (wrapS (by omega)) rfl) (aI (aI rfl rfl) trivial)) ⟨trivial,⟨rfl,trivial⟩,⟨rfl,pR _⟩,trivial⟩
   ·show((ah xs y).2.2.2.2.length-1)-(k+1)<((ah xs y).2.2.2.2.length-1)-k;omega
  have hge2:((ah xs y).2.2.2.2.length-1)≤k:=by
   have q5:decide (((k+1:Nat):Int)<((ah xs y).2.2.2.2.length:Nat))=false:=q4;have q6:((ah xs y).2.2.2.2.length:Nat)≤((k+1:Nat):Int):=by simpa using q5
   omega
  have hke:k=((ah xs y).2.2.2.2.length-1):=by omega
  subst hke;have hll:xs.length≤(iD xs y).length:=by unfold iD;rw[kC];omega
  have hlx2:0≤x∧x<((iD xs y).length:Nat):=by omega
  have hly:0≤y∧y<((iD xs y).length:Nat):=by omega
  refine Or.inr (eI _ (eI _ (aI (lK (iD xs y) us' x hlx2) ?_)));refine aI (fun _=> ?_) (fun q7=>by have q8:(c !=7)=false:=q7;rw[c4]at q8;cases q8);refine Or.inr (eI _ (eI _ (aI (lK (bE (iD xs y) x) [] y (by rw[fD];exact hly)) ?_)));refine fin [(10002,20000)] (aI ⟨rfl,rfl⟩ ?_);refine⟨trivial,⟨rfl,trivial⟩,⟨?_,nP⟩,trivial⟩;show bE (bE (iD xs y) x) y=gG bk xs c x y;simp only[gG,iE,b1,b2,b3,b4,n7,cond_true,cond_false]
 refine aI (fun b5=> ?_) (fun b5=> ?_)
 ·have c5:c=5:=by have b:(c==5)=true:=b5;simpa using b
  have n7:(c==7)=false:=by rw[c5];rfl
  obtain⟨j1,j2,j3⟩:=p5 c5;refine Or.inr (eI _ (eI _ (aI (ZC xs us' x y hA h0 (by omega) hx0 j1 (k5 c5) j2 j3 dy py.2) ?_)));have hll:xs.length≤(bJ xs x y).length:=by exact CU xs x y
  have hlx2:0≤x∧x<((bJ xs x y).length:Nat):=by omega
  have hly:0≤y∧y<((bJ xs x y).length:Nat):=by omega
  refine Or.inr (eI _ (eI _ (aI (lK (bJ xs x y) us' x hlx2) ?_)));refine aI (fun _=> ?_) (fun q7=>by have q8:(c !=7)=false:=q7;rw[c5]at q8;cases q8);refine Or.inr (eI _ (eI _ (aI (lK (bE (bJ xs x y) x) [] y (by rw[fD];exact hly)) ?_)));refine fin [(10002,103)] (aI ⟨rfl,rfl⟩ ?_);refine⟨trivial,⟨rfl,trivial⟩,⟨?_,nP⟩,trivial⟩;show bE (bE (bJ xs x y) x) y=gG bk xs c x y;simp only[gG,iE,b1,b2,b3,b4,b5,n7,cond_true,cond_false]
 refine aI (fun b6=> ?_) (fun b6=> ?_)
 ·have c6:c=6:=by have b:(c==6)=true:=b6;simpa using b
  have n7:(c==7)=false:=by rw[c6];rfl
  obtain⟨j1,j2,j3⟩:=p6 c6;refine Or.inr (eI _ (eI _ (aI (Vk xs us' x y hA h0 (by omega) hx0 j1 (k6 c6).1 (k6 c6).2 px.2 px.1 dy py.2) ?_)));have hll:xs.length≤(dL xs x y).length:=by exact DT xs x y
  have hlx2:0≤x∧x<((dL xs x y).length:Nat):=by omega
  have hly:0≤y∧y<((dL xs x y).length:Nat):=by omega
  refine Or.inr (eI _ (eI _ (aI (lK (dL xs x y) us' x hlx2) ?_)));refine aI (fun _=> ?_) (fun q7=>by have q8:(c !=7)=false:=q7;rw[c6]at q8;cases q8);refine Or.inr (eI _ (eI _ (aI (lK (bE (dL xs x y) x) [] y (by rw[fD];exact hly)) ?_)));refine fin [(10002,109)] (aI ⟨rfl,rfl⟩ ?_);refine⟨trivial,⟨rfl,trivial⟩,⟨?_,nP⟩,trivial⟩;show bE (bE (dL xs x y) x) y=gG bk xs c x y;simp only[gG,iE,b1,b2,b3,b4,b5,b6,n7,cond_true,cond_false]
 refine aI (fun b7=> ?_) (fun b7=> ?_)
 ·have c7:c=7:=by have b:(c==7)=true:=b7;simpa using b
  have n7:(c==7)=true:=b7;refine aI hx0 ?_;refine aI (h7 c7) ?_;refine Or.inr (eI _ (eI _ (aI (hE c7 us') ?_)));have hll:xs.length≤(fE (bR bk (ah xs x).2.2.1) (ah xs x).2.1 xs y).length:=by unfold fE;rw[jE,List.length_append];omega
  have hlx2:0≤x∧x<((fE (bR bk (ah xs x).2.2.1) (ah xs x).2.1 xs y).length:Nat):=by omega
  have hly:0≤y∧y<((fE (bR bk (ah xs x).2.2.1) (ah xs x).2.1 xs y).length:Nat):=by omega
  refine Or.inr (eI _ (eI _ (aI (lK (fE (bR bk (ah xs x).2.2.1) (ah xs x).2.1 xs y) us' x hlx2) ?_)));refine aI (fun q7=>by have q8:(c !=7)=true:=q7;rw[c7]at q8;cases q8) (fun _=> ?_);refine fin [(10002,125)] (aI ⟨rfl,rfl⟩ ?_);refine⟨trivial,⟨rfl,trivial⟩,⟨?_,nP⟩,trivial⟩;show bE (fE (bR bk (ah xs x).2.2.1) (ah xs x).2.1 xs y) x=gG bk xs c x y;simp only[gG,iE,b1,b2,b3,b4,b5,b6,b7,n7,cond_true,cond_false]
 ·exfalso;simp at b1 b2 b3 b4 b5 b6 b7;omega
end
section
variable (bk:List (List NAgent))(xs:List NAgent)(us:List Value)(pk:Int)(tr:List Int)(a b:Int)(ha:0≤a∧a<(xs.length:Nat))(hb:0≤b∧b<(xs.length:Nat))(hs:∀i:Nat,NetSmall (bR bk i))(hlx:xs.length≤800000)(hv:bP (ah xs (firstS xs a b).1) (ah xs (firstS xs a b).2)=7→0≤(ah xs (firstS xs a b).1).2.2.1)
include ha hb hs hlx hv
theorem XR{g e:Int}(hge:iw bk (ah xs (firstS xs a b).1) (ah xs (firstS xs a b).2)=(g,e))(he:e≠0):FCall Tryz.prog 126 [.rsl uNet bk,.ptr 10000 0,.int .i64 a,.int .i64 b] (tB xs us pk tr) (.int .i64 e) (tB xs us pk tr):=by
 have hg:=KY bk xs a b ha hb hs hv;rw[hge]at hg;refine FCall.intro (nt:=134) ti_ok mixed M9 Tryz.func126 rfl rfl rfl rfl rfl rfl ?_;refine Or.inr (eI _ (eI _ (aI (FCall.of_q ti_ok [0,71,0,0] yA hg rfl) ?_)));refine aI (fun q1=> ?_) (fun q1=> ?_)
 ·refine fin [] (aI ⟨rfl,rfl⟩ ?_);exact⟨trivial,⟨rfl,rfl,⟨rfl,rfl⟩,trivial⟩,⟨rfl,pR _⟩,⟨rfl,nP⟩,trivial⟩
 ·have q2:(e !=0)=false:=q1;simp at q2;exact absurd q2 he
theorem Vs{g:Int}(hge:iw bk (ah xs (firstS xs a b).1) (ah xs (firstS xs a b).2)=(g,0))(hf:600<IntKind.i64.wrap ((bU xs xs.length:Nat)+g)):FCall Tryz.prog 126 [.rsl uNet bk,.ptr 10000 0,.int .i64 a,.int .i64 b] (tB xs us pk tr) (.int .i64 4) (tB xs us pk tr):=by
 have hg:=KY bk xs a b ha hb hs hv;rw[hge]at hg;refine FCall.intro (nt:=134) ti_ok mixed M9 Tryz.func126 rfl rfl rfl rfl rfl rfl ?_;refine Or.inr (eI _ (eI _ (aI (FCall.of_q ti_ok [0,71,0,0] yA hg rfl) ?_)));refine aI (fun q1=>by cases q1) (fun q1=> ?_);refine Or.inr (eI _ (eI _ (aI (FCall.of_q ti_ok [71] okLive (liveQ xs (by omega)) rfl) ?_)));refine aI (fun q2=> ?_) (fun q2=> ?_)
 ·refine fin [] (aI ⟨rfl,rfl⟩ ?_);exact⟨trivial,⟨rfl,rfl,⟨rfl,rfl⟩,trivial⟩,⟨rfl,pR _⟩,⟨rfl,nP⟩,trivial⟩
 ·have q3:decide (600<IntKind.i64.wrap ((bU xs xs.length:Nat)+g))=false:=q2;simp only[decide_eq_false_iff_not]at q3;exact absurd hf q3
theorem Zn{c x y g:Int}(hf:firstS xs a b=(x,y))(hc:bP (ah xs x) (ah xs y)=c)(hge:iw bk (ah xs x) (ah xs y)=(g,0))(hc7:1≤c∧c≤7)(hp:IQ xs c x y)(hA:bG xs)(h0:ak xs (0,0))(h7:c=7→0≤(ah xs x).2.2.1∧(ah xs x).2.2.1<(bk.length:Nat))(hn:¬600<IntKind.i64.wrap ((bU xs xs.length:Nat)+g))
  (hE:c=7→∀us,FCall Tryz.prog 189 [.rp uNet (bR bk (ah xs x).2.2.1),.ptr 10000 0,.int .i64 x,.int .i64 y] (tB xs us pk tr) (.tup []) (QY 10003 (fE (bR bk (ah xs x).2.2.1) (ah xs x).2.1 xs y) us pk tr)):
  FCall Tryz.prog 126 [.rsl uNet bk,.ptr 10000 0,.int .i64 a,.int .i64 b] (tB xs us pk tr) (.int .i64 0) (QY 10003 (gG bk xs c x y) [] pk tr):=by
 have hg:=KY bk xs a b ha hb hs hv;have hfst:=firstQ xs a b ha hb;rw[hf]at hg hfst;rw[show(x,y).1=x from rfl,show(x,y).2=y from rfl,hge]at hg;rw[show(x,y).1=x from rfl,show(x,y).2=y from rfl]at hfst;obtain⟨⟨hx0,hy0,p12,p3,px,py,dy,p5,p6⟩,k5,k6⟩:=hp;refine FCall.jO 10001 M9 ?_;refine aI (fun _ us' hpre hlen=> ?_) (fun h=>absurd rfl h);refine aI (fun h=>absurd h (by decide)) (fun _=> ?_);refine FCall.intro (nt:=134) ti_ok mixed M9 Tryz.func126 rfl rfl rfl rfl rfl rfl ?_;refine Or.inr (eI _ (eI _ (aI (FCall.of_q ti_ok [0,71,0,0] yA hg rfl) ?_)))
 refine aI (fun q1=>by cases q1) (fun q1=> ?_);refine Or.inr (eI _ (eI _ (aI (FCall.of_q ti_ok [71] okLive (liveQ xs (by omega)) rfl) ?_)));refine aI (fun q2=> ?_) (fun q2=> ?_)
 ·have q3:decide (600<IntKind.i64.wrap ((bU xs xs.length:Nat)+g))=true:=q2;simp only[decide_eq_true_eq]at q3;exact absurd q3 hn
 refine Or.inr (eI _ (eI _ (aI (FCall.of_q ti_ok [71,0,0] okFirstS hfst rfl) ?_)));refine aI hx0 ?_;refine aI hy0 ?_;have hce:=classE xs us' x y;rw[hc]at hce;refine Or.inr (eI _ (eI _ (aI hce ?_)));refine aI (by kernel_rfl) ?_;refine aI (fun b1=> ?_) (fun b1=> ?_)
 ·have c1:c=1:=by have b:(c==1)=true:=b1;simpa using b
  have n7:(c==7)=false:=by rw[c1];rfl
  refine aI (fun _=> ?_) (fun h=>by rw[show(c==1)=true from b1]at h;cases h);obtain⟨j1,j2,j3,j4⟩:=p12 (.inl c1);refine Or.inl (eI _ (aI (bV _ _) ?_));refine Or.inl (eI _ (aI (bV _ _) ?_));refine Or.inr (eI _ (eI _ (aI (OI xs us' pk tr (x,1) (y,1) j1 j3 (hA _ j1) (hA _ j3)) ?_)));have hA1:=hA.join j1 j3;refine Or.inl (eI _ (aI (bV _ _) ?_));refine Or.inl (eI _ (aI (bV _ _) ?_));refine Or.inr (eI _ (eI _ (aI (OI (aT xs (x,1) (y,1)) us' pk tr (x,2) (y,2) j2.join j4.join (hA1 _ j2.join) (hA1 _ j4.join)) ?_)));have hll:xs.length≤(aT (aT xs (x,1) (y,1)) (x,2) (y,2)).length:=by rw[mX,mX];exact Nat.le_refl _
  have hlx2:0≤x∧x<((aT (aT xs (x,1) (y,1)) (x,2) (y,2)).length:Nat):=by omega
  have hly:0≤y∧y<((aT (aT xs (x,1) (y,1)) (x,2) (y,2)).length:Nat):=by omega
  refine Or.inr (eI _ (eI _ (aI (lQ (aT (aT xs (x,1) (y,1)) (x,2) (y,2)) us' pk tr x hlx2) ?_)));refine aI (fun _=> ?_) (fun q7=>by have q8:(c !=7)=false:=q7;rw[c1]at q8;cases q8);refine Or.inr (eI _ (eI _ (aI (lQ (bE (aT (aT xs (x,1) (y,1)) (x,2) (y,2)) x) [] pk tr y (by rw[fD];exact hly)) ?_)));refine fin [(10003,10001)] (aI ⟨rfl,rfl⟩ ?_);refine⟨trivial,⟨rfl,rfl,⟨rfl,rfl⟩,trivial⟩,⟨?_,nP⟩,⟨rfl,nP⟩,trivial⟩;show bE (bE (aT (aT xs (x,1) (y,1)) (x,2) (y,2)) x) y=gG bk xs c x y;simp only[gG,iE,b1,n7,cond_true,cond_false]
 refine aI (fun b2=> ?_) (fun b2=> ?_)
 ·have c2:c=2:=by have b:(c==2)=true:=b2;simpa using b
  have n7:(c==7)=false:=by rw[c2];rfl
  obtain⟨j1,j2,j3,j4⟩:=p12 (.inr c2);refine Or.inl (eI _ (aI (bV _ _) ?_));refine Or.inl (eI _ (aI (bV _ _) ?_));refine Or.inr (eI _ (eI _ (aI (OI xs us' pk tr (x,1) (y,1) j1 j3 (hA _ j1) (hA _ j3)) ?_)));have hA1:=hA.join j1 j3;refine Or.inl (eI _ (aI (bV _ _) ?_));refine Or.inl (eI _ (aI (bV _ _) ?_));refine Or.inr (eI _ (eI _ (aI (OI (aT xs (x,1) (y,1)) us' pk tr (x,2) (y,2) j2.join j4.join (hA1 _ j2.join) (hA1 _ j4.join)) ?_)));have hll:xs.length≤(aT (aT xs (x,1) (y,1)) (x,2) (y,2)).length:=by rw[mX,mX];exact Nat.le_refl _
  have hlx2:0≤x∧x<((aT (aT xs (x,1) (y,1)) (x,2) (y,2)).length:Nat):=by omega
  have hly:0≤y∧y<((aT (aT xs (x,1) (y,1)) (x,2) (y,2)).length:Nat):=by omega
  refine Or.inr (eI _ (eI _ (aI (lQ (aT (aT xs (x,1) (y,1)) (x,2) (y,2)) us' pk tr x hlx2) ?_)));refine aI (fun _=> ?_) (fun q7=>by have q8:(c !=7)=false:=q7;rw[c2]at q8;cases q8);refine Or.inr (eI _ (eI _ (aI (lQ (bE (aT (aT xs (x,1) (y,1)) (x,2) (y,2)) x) [] pk tr y (by rw[fD];exact hly)) ?_)));refine fin [(10003,10001)] (aI ⟨rfl,rfl⟩ ?_);refine⟨trivial,⟨rfl,rfl,⟨rfl,rfl⟩,trivial⟩,⟨?_,nP⟩,⟨rfl,nP⟩,trivial⟩;show bE (bE (aT (aT xs (x,1) (y,1)) (x,2) (y,2)) x) y=gG bk xs c x y;simp only[gG,iE,b1,b2,n7,cond_true,cond_false]
 refine aI (fun b3=> ?_) (fun b3=> ?_)
 ·have c3:c=3:=by have b:(c==3)=true:=b3;simpa using b
  have n7:(c==7)=false:=by rw[c3];rfl
  obtain⟨j1,j2⟩:=p3 c3;refine Or.inr (eI _ (eI _ (aI (Zo xs us' pk tr x y hA h0 (by omega) j1 j2 hy0 py.2 dy py.1) ?_)));have hll:xs.length≤(bL xs x y).length:=by exact yR xs x y
  have hlx2:0≤x∧x<((bL xs x y).length:Nat):=by omega
  have hly:0≤y∧y<((bL xs x y).length:Nat):=by omega
  refine Or.inr (eI _ (eI _ (aI (lQ (bL xs x y) us' pk tr x hlx2) ?_)));refine aI (fun _=> ?_) (fun q7=>by have q8:(c !=7)=false:=q7;rw[c3]at q8;cases q8);refine Or.inr (eI _ (eI _ (aI (lQ (bE (bL xs x y) x) [] pk tr y (by rw[fD];exact hly)) ?_)));refine fin [(10003,72)] (aI ⟨rfl,rfl⟩ ?_);refine⟨trivial,⟨rfl,rfl,⟨rfl,rfl⟩,trivial⟩,⟨?_,nP⟩,⟨rfl,nP⟩,trivial⟩;show bE (bE (bL xs x y) x) y=gG bk xs c x y;simp only[gG,iE,b1,b2,b3,n7,cond_true,cond_false]
 refine aI (fun b4=> ?_) (fun b4=> ?_)
 ·have c4:c=4:=by have b:(c==4)=true:=b4;simpa using b
  have n7:(c==7)=false:=by rw[c4];rfl
  have hyk:∀i:Nat,i<((ah xs y).2.2.2.2.length-1)→ak xs (y,((i+1:Nat):Int)):=fun i hi=>⟨hy0.1,hy0.2,by omega,by show((i+1:Nat):Int)<((ah xs y).2.2.2.2.length:Nat);omega⟩
  refine aI hy0 ?_;refine aI (tJ hlen hy0.1 hy0.2) ?_;refine lp Nat (fun k=>[(13,.int .i64 ((k+1:Nat):Int)),(12,.int .i64 ((ah xs y).2.2.2.2.length:Nat))]) (fun k=>[.cel 10000 124 [.sl 20000,.sl 10002,.int .i64 pk],.row 20000 150 5 uAgent (sS y xs k) us',.row 10002 2 1 (.int .i64) tr []]) (fun k=>((ah xs y).2.2.2.2.length-1)-k) (fun k=>k≤((ah xs y).2.2.2.2.length-1)) 0 (Nat.zero_le _) ?_ ?_
  ·exact hd [(20000,10001)] rfl (aI (aI rfl rfl) (aI (aI rfl rfl) trivial)) ⟨trivial,⟨rfl,rfl,⟨rfl,rfl⟩,trivial⟩,⟨rfl,pR _⟩,⟨rfl,nP⟩,trivial⟩
  intro k hk;refine aI (fun q4=> ?_) (fun q4=> ?_)
  ·have hlt:k<((ah xs y).2.2.2.2.length-1):=by
    have q5:decide (((k+1:Nat):Int)<((ah xs y).2.2.2.2.length:Nat))=true:=q4;have q6:((k+1:Nat):Int)<((ah xs y).2.2.2.2.length:Nat):=by simpa using q5
    omega
   have hadd:=uY (sS y xs k) us' pk tr 5 0 0 1 (by rw[kC];omega) (by omega);rw[kC]at hadd;refine Or.inr (eI _ (eI _ (aI hadd ?_)));refine Or.inl (eI _ (aI (bV _ _) ?_));refine Or.inl (eI _ (aI (bV _ _) ?_));refine Or.inr (eI _ (eI _ (aI (moveB (sS y xs k++[bD 5 0 0 [] 1]) us' pk tr (y,((k+1:Nat):Int)) (((xs.length+k:Nat):Int),0) ((yh hA h0 k fun i hi=>hyk i (by omega)).add (pO h0 k) _ _ _ _ _) (pO (hyk k hlt) k).app (Af k)) ?_)));refine lp_next (k+1) (by omega) ?_ ?_
   ·exact hd [(20000,90)] rfl (aI (aI (wrapS (by omega)) rfl) (aI (aI rfl rfl) trivial)) ⟨trivial,⟨rfl,rfl,⟨rfl,rfl⟩,trivial⟩,⟨rfl,pR _⟩,⟨rfl,nP⟩,trivial⟩
   ·show((ah xs y).2.2.2.2.length-1)-(k+1)<((ah xs y).2.2.2.2.length-1)-k;omega
  have hge2:((ah xs y).2.2.2.2.length-1)≤k:=by
   have q5:decide (((k+1:Nat):Int)<((ah xs y).2.2.2.2.length:Nat))=false:=q4;have q6:((ah xs y).2.2.2.2.length:Nat)≤((k+1:Nat):Int):=by simpa using q5
   omega
  have hke:k=((ah xs y).2.2.2.2.length-1):=by omega
  subst hke;have hll:xs.length≤(iD xs y).length:=by unfold iD;rw[kC];omega
  have hlx2:0≤x∧x<((iD xs y).length:Nat):=by omega
  have hly:0≤y∧y<((iD xs y).length:Nat):=by omega
  refine Or.inr (eI _ (eI _ (aI (lQ (iD xs y) us' pk tr x hlx2) ?_)));refine aI (fun _=> ?_) (fun q7=>by have q8:(c !=7)=false:=q7;rw[c4]at q8;cases q8);refine Or.inr (eI _ (eI _ (aI (lQ (bE (iD xs y) x) [] pk tr y (by rw[fD];exact hly)) ?_)));refine fin [(10003,20000)] (aI ⟨rfl,rfl⟩ ?_);refine⟨trivial,⟨rfl,rfl,⟨rfl,rfl⟩,trivial⟩,⟨?_,nP⟩,⟨rfl,nP⟩,trivial⟩;show bE (bE (iD xs y) x) y=gG bk xs c x y;simp only[gG,iE,b1,b2,b3,b4,n7,cond_true,cond_false]
 refine aI (fun b5=> ?_) (fun b5=> ?_)
 ·have c5:c=5:=by have b:(c==5)=true:=b5;simpa using b
  have n7:(c==7)=false:=by rw[c5];rfl
  obtain⟨j1,j2,j3⟩:=p5 c5;refine Or.inr (eI _ (eI _ (aI (kE xs us' pk tr x y hA h0 (by omega) hx0 j1 (k5 c5) j2 j3 dy py.2) ?_)));have hll:xs.length≤(bJ xs x y).length:=by exact CU xs x y
  have hlx2:0≤x∧x<((bJ xs x y).length:Nat):=by omega
  have hly:0≤y∧y<((bJ xs x y).length:Nat):=by omega
  refine Or.inr (eI _ (eI _ (aI (lQ (bJ xs x y) us' pk tr x hlx2) ?_)));refine aI (fun _=> ?_) (fun q7=>by have q8:(c !=7)=false:=q7;rw[c5]at q8;cases q8);refine Or.inr (eI _ (eI _ (aI (lQ (bE (bJ xs x y) x) [] pk tr y (by rw[fD];exact hly)) ?_)));refine fin [(10003,103)] (aI ⟨rfl,rfl⟩ ?_);refine⟨trivial,⟨rfl,rfl,⟨rfl,rfl⟩,trivial⟩,⟨?_,nP⟩,⟨rfl,nP⟩,trivial⟩;show bE (bE (bJ xs x y) x) y=gG bk xs c x y;simp only[gG,iE,b1,b2,b3,b4,b5,n7,cond_true,cond_false]
 refine aI (fun b6=> ?_) (fun b6=> ?_)
 ·have c6:c=6:=by have b:(c==6)=true:=b6;simpa using b
  have n7:(c==7)=false:=by rw[c6];rfl
  obtain⟨j1,j2,j3⟩:=p6 c6;refine Or.inr (eI _ (eI _ (aI (Vl xs us' pk tr x y hA h0 (by omega) hx0 j1 (k6 c6).1 (k6 c6).2 px.2 px.1 dy py.2) ?_)));have hll:xs.length≤(dL xs x y).length:=by exact DT xs x y
  have hlx2:0≤x∧x<((dL xs x y).length:Nat):=by omega
  have hly:0≤y∧y<((dL xs x y).length:Nat):=by omega
  refine Or.inr (eI _ (eI _ (aI (lQ (dL xs x y) us' pk tr x hlx2) ?_)));refine aI (fun _=> ?_) (fun q7=>by have q8:(c !=7)=false:=q7;rw[c6]at q8;cases q8);refine Or.inr (eI _ (eI _ (aI (lQ (bE (dL xs x y) x) [] pk tr y (by rw[fD];exact hly)) ?_)));refine fin [(10003,109)] (aI ⟨rfl,rfl⟩ ?_);refine⟨trivial,⟨rfl,rfl,⟨rfl,rfl⟩,trivial⟩,⟨?_,nP⟩,⟨rfl,nP⟩,trivial⟩;show bE (bE (dL xs x y) x) y=gG bk xs c x y;simp only[gG,iE,b1,b2,b3,b4,b5,b6,n7,cond_true,cond_false]
 refine aI (fun b7=> ?_) (fun b7=> ?_)
 ·have c7:c=7:=by have b:(c==7)=true:=b7;simpa using b
  have n7:(c==7)=true:=b7;refine aI hx0 ?_;refine aI (h7 c7) ?_;refine Or.inr (eI _ (eI _ (aI (hE c7 us') ?_)));have hll:xs.length≤(fE (bR bk (ah xs x).2.2.1) (ah xs x).2.1 xs y).length:=by unfold fE;rw[jE,List.length_append];omega
  have hlx2:0≤x∧x<((fE (bR bk (ah xs x).2.2.1) (ah xs x).2.1 xs y).length:Nat):=by omega
  have hly:0≤y∧y<((fE (bR bk (ah xs x).2.2.1) (ah xs x).2.1 xs y).length:Nat):=by omega
  refine Or.inr (eI _ (eI _ (aI (lQ (fE (bR bk (ah xs x).2.2.1) (ah xs x).2.1 xs y) us' pk tr x hlx2) ?_)));refine aI (fun q7=>by have q8:(c !=7)=true:=q7;rw[c7]at q8;cases q8) (fun _=> ?_);refine fin [(10003,125)] (aI ⟨rfl,rfl⟩ ?_);refine⟨trivial,⟨rfl,rfl,⟨rfl,rfl⟩,trivial⟩,⟨?_,nP⟩,⟨rfl,nP⟩,trivial⟩;show bE (fE (bR bk (ah xs x).2.2.1) (ah xs x).2.1 xs y) x=gG bk xs c x y;simp only[gG,iE,b1,b2,b3,b4,b5,b6,b7,n7,cond_true,cond_false]
 ·exfalso;simp at b1 b2 b3 b4 b5 b6 b7;omega
end
end Go.Proofs.YtemalpelcdmemaaGreat
namespace Go.Proofs.YtemalpelcdmemaaGreat
open Go Go.RowKit Go.Proofs Go.Tr
def UL(xs:List NAgent)(k:Int):Bool:=bif inB k 0 ((xs.length:Int)-1)then(ah xs k).1 !=0 else false
def Vf(xs:List NAgent)(a b:Int):Bool:=
 bif (bif decide (0<a)then decide (a<b)else false)then gY [(elt (dflt uPort) (ah xs a).2.2.2.2 0).1,(elt (dflt uPort) (ah xs a).2.2.2.2 0).2] [b,0]else false
section
variable (bk:List (List NAgent))(xs:List NAgent)(us:List Value)(a b:Int)(ha:0≤a∧a<(xs.length:Nat))(hb:0≤b∧b<(xs.length:Nat))
include ha hb
end
end Go.Proofs.YtemalpelcdmemaaGreat
namespace Go.Proofs.YtemalpelcdmemaaGreat
open Go Go.RowKit Go.Proofs Go.Tr
section
variable (bk:List (List NAgent))(xs:List NAgent)(us:List Value)(e:bX)(hl:xs.length≤1000000)
variable (ha:UL xs e.1=true)(hb:UL xs e.2.1=true)(hp:0<(ah xs e.1).2.2.2.2.length)
variable (h:Vf xs e.1 e.2.1=true)
include h
end
end Go.Proofs.YtemalpelcdmemaaGreat
