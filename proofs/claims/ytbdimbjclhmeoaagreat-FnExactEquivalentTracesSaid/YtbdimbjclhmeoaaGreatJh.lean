
/- The reference's nets: wires, new agents, holes. -/
import Derived.Test.YtbdimbjclhmeoaaGreatIo
set_option maxHeartbeats 4000000
set_option maxRecDepth 100000
set_option linter.unusedSimpArgs false
set_option linter.unusedVariables false
set_option linter.unusedSectionVars false
namespace Go.Proofs.YtbdimbjclhmeoaaGreat
open Go Go.RowKit Go.Proofs Go.Tr
theorem PL:bH Tryz.prog 197=true:=by kernel_rfl
theorem PN:bH Tryz.prog 196=true:=by kernel_rfl
theorem UL:bH Tryz.prog 156=true:=by kernel_rfl
theorem fA(a b:Int):aJ Tryz.prog 68 [.int .i64 a,.int .i64 b] (.agg [.int .i64 a,.int .i64 b]):=by
 refine aJ.intro (nt:=8) aG mixed (by kernel_rfl) Tryz.func68 rfl rfl rfl rfl rfl ?_;exact rfl
theorem Zbu(xs:aS)(p:aC)(hp:aj xs p):aJ Tryz.prog 196 [.rp aZ xs,vP p] (vP (ay xs p)):=by
 obtain⟨p1,p2,p3,p4⟩:=hp;refine aJ.intro (nt:=18) aG mixed PN Tryz.func196 rfl rfl rfl rfl rfl ?_;refine aI ⟨p1,p2⟩ ?_;refine aI ⟨p3,p4⟩ ?_;refine aI (by kernel_rfl) ?_;exact rfl
theorem UU:bH Tryz.prog 133=true:=by kernel_rfl
theorem ZL(xs:List Int)(hx:xs.length<=1048576):aA Tryz.prog 133 [.rsl (.int .i64) xs] [] (.sl 10000) [.row 10000 2 1 (.int .i64) xs []]:=by
 refine aA.intro (nt:=6) aG mixed UU Tryz.func133 rfl rfl rfl rfl rfl rfl ?_;refine aI (by show 0+xs.length<=_;omega) ?_;refine fin [(10000,5)] (aI rfl ?_);exact⟨⟨rfl,nP⟩,trivial⟩
theorem XB:aA Tryz.prog 133 [.raw (.slice none 0 0)] [] (.sl 10000) [.row 10000 2 1 (.int .i64) [] []]:=aA.of_nil (ZL [] (by simp))
theorem XC(ds:List Int)(hd:ds.length<=1048576):aA Tryz.prog 133 [.sl 10000] [.row 10000 2 1 (.int .i64) ds []] (.sl 10001) [.row 10001 2 1 (.int .i64) ds [],.row 10000 2 1 (.int .i64) ds []]:=
 aA.Ey (ts2:=[.row 10001 2 1 (.int .i64) ds []]) aG [0] UU (ZL ds hd) rfl rfl rfl
theorem Li:bH Tryz.prog 102=true:=by kernel_rfl
theorem Nt(x:ak)(h1:x.2.2.2.1.length<=1048576)(h2:x.2.2.2.2.length<=1048576):aA Tryz.prog 102 [.rp aD x] [] (.agg [.int .i64 x.1,.int .i64 x.2.1,.int .i64 x.2.2.1,.sl 10000,.sl 10001]) [.row 10000 2 1 (.int .i64) x.2.2.2.1 [],.row 10001 119 2 aK x.2.2.2.2 []]:=by
 refine aA.intro (nt:=27) aG mixed Li Tryz.func102 rfl rfl rfl rfl rfl rfl ?_;refine oY (ZL _ h1) ?_;refine aI (by show 0+x.2.2.2.2.length<=_;omega) ?_;refine aI (by kernel_rfl) ?_;refine fin [(10000,19),(10001,25)] (aI rfl ?_);exact⟨⟨rfl,nP⟩,⟨rfl,nP⟩,trivial⟩
theorem Ns(xs:aS)(us:bW)(i:Int)(h1:(ah xs i).2.2.2.1.length<=1048576)(h2:(ah xs i).2.2.2.2.length<=1048576):aA Tryz.prog 102 [.ep 10000 5 i 0] [.row 10000 117 5 aD xs us] (.agg [.int .i64 (ah xs i).1,.int .i64 (ah xs i).2.1,.int .i64 (ah xs i).2.2.1,.sl 10001,.sl 10002]) [.row 10001 2 1 (.int .i64) (ah xs i).2.2.2.1 [],.row 10002 119 2 aK (ah xs i).2.2.2.2 [],.row 10000 117 5 aD xs us]:=
 aA.Ey (ts2:=[.row 10001 2 1 (.int .i64) (ah xs i).2.2.2.1 [],.row 10002 119 2 aK (ah xs i).2.2.2.2 []]) aG [0] Li (Nt (ah xs i) h1 h2) rfl rfl rfl
abbrev tA(xs:List ak)(us:List Value):List Tok:=[.dL 10000 37 [.sl 10001],.row 10001 117 5 aD xs us]
abbrev Ir(g:Nat)(xs:List ak)(us:List Value):List Tok:=[.dL 10000 37 [.sl g],.row g 117 5 aD xs us]
theorem G9(xs:aS)(us:bW)(p q:aC)(hp:aj xs p)(hq:aj xs q):aA Tryz.prog 197 [.ptr 10000 0,vP p,vP q] (tA xs us) (.tup []) (tA (bD xs p q) us):=by
 refine aA.expose PL ?_;intro us' hpre hlen
 skip
 have hq':aj (aN xs p q) q:=hq.set;obtain⟨p1,p2,p3,p4⟩:=hp;obtain⟨q1,q2,q3,q4⟩:=hq';have q2':q.1<(xs.length:Nat):=by rwa[cO]at q2
 refine aA.intro (nt:=32) aG mixed PL Tryz.func197 rfl rfl rfl rfl rfl rfl ?_;refine aI ⟨p1,p2⟩ ?_;refine aI (vZ hlen p1 p2) ?_;refine aI ⟨p3,p4⟩ ?_;refine eI 10001 (aI ⟨⟨p1,p2,sW hlen p1 p2 (by decide)⟩,p3,p4⟩ ?_);refine aI (by kernel_rfl) ?_;refine aI ⟨q1,q2⟩ ?_;refine aI (vZ hlen q1 q2') ?_;refine aI ⟨q3,q4⟩ ?_;refine eI 10001 (aI ⟨⟨q1,q2,sW hlen q1 q2' (by decide)⟩,q3,q4⟩ ?_);refine aI (by kernel_rfl) ?_;refine fin [] (aI rfl ?_);exact⟨trivial,⟨rfl,trivial⟩,⟨rfl,hpre⟩,trivial⟩
theorem U9(xs:aS)(us:bW)(p:aC)(hp:aj xs p):aA Tryz.prog 196 [.ptr 10000 0,vP p] (tA xs us) (vP (ay xs p)) (tA xs us):=
 aA.vC aG [64,0] PN (Zbu xs p hp) rfl
theorem moveA(xs:aS)(us:bW)(p q:aC)(hA:bO xs)(hp:aj xs p)(hq:aj xs q):aA Tryz.prog 157 [.ptr 10000 0,vP p,vP q] (tA xs us) (.tup []) (tA (bY xs p q) us):=by
 have hl:=G9 xs us q (ay xs p) hq (hA p hp);rw[vo hq (hA p hp)]at hl;refine aA.intro (nt:=12) aG mixed (by kernel_rfl) Tryz.func157 rfl rfl rfl rfl rfl rfl ?_;refine oY (U9 xs us p hp) ?_;refine oY hl ?_;refine aI (by kernel_rfl) ?_;refine fin [] (aI rfl ?_);exact⟨trivial,⟨rfl,trivial⟩,⟨rfl,pR _⟩,trivial⟩
theorem Pp(xs:aS)(us:bW)(p q:aC)(hp:aj xs p)(hq:aj xs q)(hr:aj xs (ay xs p))(hs:aj xs (ay xs q)):aA Tryz.prog 154 [.ptr 10000 0,vP p,vP q] (tA xs us) (.tup []) (tA (bg xs p q) us):=by
 refine aA.intro (nt:=21) aG mixed (by kernel_rfl) Tryz.func154 rfl rfl rfl rfl rfl rfl ?_;refine oY (U9 xs us p hp) ?_;refine oY (U9 xs us q hq) ?_;refine aI ⟨by kernel_rfl,rfl⟩ ?_;refine aI (fun h1=> ?_) (fun h1=> ?_)
 .refine oY (G9 xs us (ay xs p) (ay xs q) hr hs) ?_;refine fin [] (aI rfl ?_);refine⟨trivial,⟨rfl,trivial⟩,⟨?_,pR _⟩,trivial⟩;have h1:(!bT [(ay xs p).1,(ay xs p).2] [q.1,q.2])=true:=h1
  have h2:((ay xs p).1==q.1&&(ay xs p).2==q.2)=false:=by
   cases hc:((ay xs p).1==q.1&&(ay xs p).2==q.2)with
   |false=>rfl
   |true=>simp[bT,hc]at h1
  show bD xs (ay xs p) (ay xs q)=_;unfold bg;rw[h2];rfl
 .refine fin [] (aI rfl ?_);refine⟨trivial,⟨rfl,trivial⟩,⟨?_,pR _⟩,trivial⟩;have h1:(!bT [(ay xs p).1,(ay xs p).2] [q.1,q.2])=false:=h1;have h2:((ay xs p).1==q.1&&(ay xs p).2==q.2)=true:=by simpa[bT]using h1
  show xs=_;unfold bg;rw[h2];rfl
theorem kS(xs:aS)(us:bW)(a:Int)(ha:0<=a/\a<(xs.length:Nat)):aA Tryz.prog 161 [.ptr 10000 0,.int .i64 a] (tA xs us) (.tup []) (tA (bB xs a) []):=by
 refine aA.intro (nt:=11) aG mixed (by kernel_rfl) Tryz.func161 rfl rfl rfl rfl rfl rfl ?_;refine aI ha ?_;refine fin [] (aI rfl ?_);exact⟨trivial,⟨rfl,trivial⟩,⟨rfl,nP⟩,trivial⟩
theorem uQ(xs:aS)(us:bW)(k l v:Int)(n:Nat)(hl:xs.length<=1000000)(hn:n<=1000000):aA Tryz.prog 156 [.ptr 10000 0,.int .i64 k,.int .i64 l,.int .i64 v,.raw (.slice none 0 0),.int .i64 (n:Nat)] (tA xs us) (.int .i64 (xs.length:Nat)) (Ir 10002 (xs++[bf k l v [] n]) us):=by
 refine aA.intro (nt:=48) aG mixed UL Tryz.func156 rfl rfl rfl rfl rfl rfl ?_;refine oY XB ?_
 refine lp Nat (fun j=>[(14,.int .i64 ((n:Nat)-(j:Nat)))])
  (fun j=>match j with|0=>[.dL 13 117 [.int .i64 k,.int .i64 l,.int .i64 v,.sl 19,.raw (.slice none 0 0)],.dL 10000 37 [.sl 10001],.row 10001 117 5 aD xs us,.row 19 2 1 (.int .i64) [] []]|j+1=>[.dL 13 117 [.int .i64 k,.int .i64 l,.int .i64 v,.sl 19,.sl 20001],.dL 10000 37 [.sl 10001],.row 10001 117 5 aD xs us,.row 19 2 1 (.int .i64) [] [],.row 20001 119 2 aK (List.replicate (j+1) (0,0)) []])
  (fun j=>n-j) (fun j=>j<=n) 0 (Nat.zero_le _) ?_ ?_
 .exact hd [] rfl (aI (aI (Int.sub_zero _).symm rfl) trivial) ⟨trivial,⟨⟨rfl,rfl⟩,⟨rfl,rfl⟩,⟨rfl,rfl⟩,rfl,rfl,trivial⟩,trivial,⟨rfl,trivial⟩,⟨rfl,pR _⟩,⟨rfl,nP⟩,trivial⟩
 intro j hj;have hwr:IntKind.i64.wrap ((n:Nat)-(j:Nat)-1)=(n:Nat)-((j+1:Nat):Int):=by rw[qO _ (by omega)];omega
 cases j with
 |zero=>
  refine aI (fun q1=> ?_) (fun q1=> ?_)
  .have hlt:0<n:=by have q2:decide ((0:Int)<(n:Nat)-((0:Nat):Int))=true:=q1;simp at q2;omega
   refine aI (by show 1<=1073741824;omega) ?_;refine aY 1 (by omega) ?_ ?_
   .exact hd [(20001,30)] rfl (aI (aI hwr rfl) trivial) ⟨trivial,⟨⟨rfl,rfl⟩,⟨rfl,rfl⟩,⟨rfl,rfl⟩,rfl,rfl,trivial⟩,trivial,⟨rfl,trivial⟩,⟨rfl,pR _⟩,⟨rfl,nP⟩,⟨rfl,nP⟩,trivial⟩
   .show n-1<n-0;omega
  .have hn0:n=0:=by have q2:decide ((0:Int)<(n:Nat)-((0:Nat):Int))=false:=q1;simp at q2;omega
   refine aI (by show xs.length+1<=_;omega) ?_;refine aI (by kernel_rfl) ?_;refine fin [(10002,39)] (aI ?_ ?_)
   .show IntKind.i64.wrap (((xs++[_]).length:Nat)-1)=((xs.length:Nat):Int)/\IntKind.i64=IntKind.i64;rw[qA,qJ,qO _ (by omega)];exact⟨by omega,rfl⟩
   .refine⟨trivial,⟨rfl,trivial⟩,⟨?_,pR _⟩,trivial⟩;show xs++[(k,l,v,[],[])]=xs++[bf k l v [] n];unfold bf;rw[hn0];rfl
 |succ j=>
  refine aI (fun q1=> ?_) (fun q1=> ?_)
  .have hlt:j+1<n:=by have q2:decide ((0:Int)<(n:Nat)-((j+1:Nat):Int))=true:=q1;simp at q2;omega
   refine aI (by show(List.replicate (j+1) ((0:Int),(0:Int))).length+1<=1073741824;rw[List.length_replicate];omega) ?_;refine aY (j+2) (by omega) ?_ ?_
   .refine hd [(20001,30)] rfl (aI (aI hwr rfl) trivial) ⟨trivial,⟨⟨rfl,rfl⟩,⟨rfl,rfl⟩,⟨rfl,rfl⟩,rfl,rfl,trivial⟩,trivial,⟨rfl,trivial⟩,⟨rfl,pR _⟩,⟨rfl,nP⟩,⟨?_,nP⟩,trivial⟩;show List.replicate (j+1) ((0:Int),(0:Int))++[(0,0)]=List.replicate (j+1+1) (0,0);rw[List.replicate_succ' (n:=j+1)]
   .show n-(j+2)<n-(j+1);omega
  .have hn0:n=j+1:=by have q2:decide ((0:Int)<(n:Nat)-((j+1:Nat):Int))=false:=q1;simp at q2;omega
   refine aI (by show xs.length+1<=_;omega) ?_;refine aI (by kernel_rfl) ?_;refine fin [(10002,39)] (aI ?_ ?_)
   .show IntKind.i64.wrap (((xs++[_]).length:Nat)-1)=((xs.length:Nat):Int)/\IntKind.i64=IntKind.i64;rw[qA,qJ,qO _ (by omega)];exact⟨by omega,rfl⟩
   .refine⟨trivial,⟨rfl,trivial⟩,⟨?_,pR _⟩,trivial⟩;show xs++[(k,l,v,[],List.replicate (j+1) (0,0))]=xs++[bf k l v [] n];unfold bf;rw[hn0]
theorem IC(xs:aS)(us:bW)(k l v:Int)(n:Nat)(ds:List Int)(hl:xs.length<=1000000)(hn:n<=1000000)(hd0:ds.length<=1000000):aA Tryz.prog 156 [.ptr 10000 0,.int .i64 k,.int .i64 l,.int .i64 v,.sl 10002,.int .i64 (n:Nat)] (tA xs us++[.row 10002 2 1 (.int .i64) ds []]) (.int .i64 (xs.length:Nat)) (Ir 10003 (xs++[bf k l v ds n]) us++[.row 10002 2 1 (.int .i64) ds []]):=by
 refine aA.intro (nt:=48) aG mixed UL Tryz.func156 rfl rfl rfl rfl rfl rfl ?_;refine oY (XC ds (by omega)) ?_
 refine lp Nat (fun j=>[(14,.int .i64 ((n:Nat)-(j:Nat)))])
  (fun j=>match j with|0=>[.dL 13 117 [.int .i64 k,.int .i64 l,.int .i64 v,.sl 19,.raw (.slice none 0 0)],.dL 10000 37 [.sl 10001],.row 10001 117 5 aD xs us,.row 10002 2 1 (.int .i64) ds [],.row 19 2 1 (.int .i64) ds []]|j+1=>[.dL 13 117 [.int .i64 k,.int .i64 l,.int .i64 v,.sl 19,.sl 20001],.dL 10000 37 [.sl 10001],.row 10001 117 5 aD xs us,.row 10002 2 1 (.int .i64) ds [],.row 19 2 1 (.int .i64) ds [],.row 20001 119 2 aK (List.replicate (j+1) (0,0)) []])
  (fun j=>n-j) (fun j=>j<=n) 0 (Nat.zero_le _) ?_ ?_
 .exact hd [] rfl (aI (aI (Int.sub_zero _).symm rfl) trivial) ⟨trivial,⟨⟨rfl,rfl⟩,⟨rfl,rfl⟩,⟨rfl,rfl⟩,rfl,rfl,trivial⟩,trivial,⟨rfl,trivial⟩,⟨rfl,pR _⟩,⟨rfl,nP⟩,⟨rfl,nP⟩,trivial⟩
 intro j hj;have hwr:IntKind.i64.wrap ((n:Nat)-(j:Nat)-1)=(n:Nat)-((j+1:Nat):Int):=by rw[qO _ (by omega)];omega
 cases j with
 |zero=>
  refine aI (fun q1=> ?_) (fun q1=> ?_)
  .have hlt:0<n:=by have q2:decide ((0:Int)<(n:Nat)-((0:Nat):Int))=true:=q1;simp at q2;omega
   refine aI (by show 1<=1073741824;omega) ?_;refine aY 1 (by omega) ?_ ?_
   .exact hd [(20001,30)] rfl (aI (aI hwr rfl) trivial) ⟨trivial,⟨⟨rfl,rfl⟩,⟨rfl,rfl⟩,⟨rfl,rfl⟩,rfl,rfl,trivial⟩,trivial,⟨rfl,trivial⟩,⟨rfl,pR _⟩,⟨rfl,nP⟩,⟨rfl,nP⟩,⟨rfl,nP⟩,trivial⟩
   .show n-1<n-0;omega
  .have hn0:n=0:=by have q2:decide ((0:Int)<(n:Nat)-((0:Nat):Int))=false:=q1;simp at q2;omega
   refine aI (by show xs.length+1<=_;omega) ?_;refine aI (by kernel_rfl) ?_;refine fin [(10003,39)] (aI ?_ ?_)
   .show IntKind.i64.wrap (((xs++[_]).length:Nat)-1)=((xs.length:Nat):Int)/\IntKind.i64=IntKind.i64;rw[qA,qJ,qO _ (by omega)];exact⟨by omega,rfl⟩
   .refine⟨trivial,⟨rfl,trivial⟩,⟨?_,pR _⟩,⟨rfl,nP⟩,trivial⟩;show xs++[(k,l,v,ds,[])]=xs++[bf k l v ds n];unfold bf;rw[hn0];rfl
 |succ j=>
  refine aI (fun q1=> ?_) (fun q1=> ?_)
  .have hlt:j+1<n:=by have q2:decide ((0:Int)<(n:Nat)-((j+1:Nat):Int))=true:=q1;simp at q2;omega
   refine aI (by show(List.replicate (j+1) ((0:Int),(0:Int))).length+1<=1073741824;rw[List.length_replicate];omega) ?_;refine aY (j+2) (by omega) ?_ ?_
   .refine hd [(20001,30)] rfl (aI (aI hwr rfl) trivial) ⟨trivial,⟨⟨rfl,rfl⟩,⟨rfl,rfl⟩,⟨rfl,rfl⟩,rfl,rfl,trivial⟩,trivial,⟨rfl,trivial⟩,⟨rfl,pR _⟩,⟨rfl,nP⟩,⟨rfl,nP⟩,⟨?_,nP⟩,trivial⟩;show List.replicate (j+1) ((0:Int),(0:Int))++[(0,0)]=List.replicate (j+1+1) (0,0);rw[List.replicate_succ' (n:=j+1)]
   .show n-(j+2)<n-(j+1);omega
  .have hn0:n=j+1:=by have q2:decide ((0:Int)<(n:Nat)-((j+1:Nat):Int))=false:=q1;simp at q2;omega
   refine aI (by show xs.length+1<=_;omega) ?_;refine aI (by kernel_rfl) ?_;refine fin [(10003,39)] (aI ?_ ?_)
   .show IntKind.i64.wrap (((xs++[_]).length:Nat)-1)=((xs.length:Nat):Int)/\IntKind.i64=IntKind.i64;rw[qA,qJ,qO _ (by omega)];exact⟨by omega,rfl⟩
   .refine⟨trivial,⟨rfl,trivial⟩,⟨?_,pR _⟩,⟨rfl,nP⟩,trivial⟩;show xs++[(k,l,v,ds,List.replicate (j+1) (0,0))]=xs++[bf k l v ds n];unfold bf;rw[hn0]
theorem Lg:bH Tryz.prog 169=true:=by kernel_rfl
theorem Pf(x:ak):aJ Tryz.prog 169 [.rp aD x] (.int .i64 (nW x)):=by
 refine aJ.intro (nt:=14) aG mixed Lg Tryz.func169 rfl rfl rfl rfl rfl ?_;refine aI (fun q1=> ?_) (fun q1=> ?_)
 .refine⟨?_,rfl⟩;unfold nW;rw[show(x.1==9)=true from q1];rfl
 .refine⟨?_,rfl⟩;unfold nW;rw[show(x.1==9)=false from q1];rfl
theorem WZ(xs:aS)(us:bW)(i:Int):aA Tryz.prog 169 [.ep 10000 5 i 0] [.row 10000 117 5 aD xs us] (.int .i64 (nW (ah xs i))) [.row 10000 117 5 aD xs us]:=
 aA.vC aG [0] Lg (Pf (ah xs i)) rfl
theorem Zbq(xs:aS)(us:bW)(x y:Int)(hA:bO xs)(h0:aj xs (0,0))(hl:xs.length<=900000)(hx:0<=x/\x<(xs.length:Nat))(h1:aj xs (y,1))(hk:(ah xs y).1=7\/(ah xs y).1=8)(h2:(ah xs y).1=7->aj xs (y,2))(h3:(ah xs y).1≠7->0<(ah xs y).2.2.2.1.length)(hdd:(ah xs y).2.2.2.1.length<=1000000)(hp:(ah xs y).2.2.2.2.length<=1000):
  aA Tryz.prog 158 [.ptr 10000 0,.int .i64 x,.int .i64 y] (tA xs us) (.tup []) (Ir 10002 (bJ xs x y) us):=by
 have hy:0<=y/\y<(xs.length:Nat):=⟨h1.1,h1.2.1⟩;refine aA.intro (nt:=64) aG mixed (by kernel_rfl) Tryz.func158 rfl rfl rfl rfl rfl rfl ?_;refine aI hy ?_;refine oY (Ns xs us y (by omega) (by omega)) ?_;refine aI hx ?_;refine aI (fun q1=> ?_) (fun q1=> ?_)
 .have q8:(ah xs y).1=8:=by have q2:((ah xs y).1==8)=true:=q1;simpa using q2
  have q7:(ah xs y).1≠7:=by omega
  refine aI ⟨by decide,by have:=h3 q7;show(0:Int)<((ah xs y).2.2.2.1.length:Nat);omega⟩ ?_;refine oZ (U4 _ _ _) ?_;refine oY (uQ xs us 6 0 (xZ (ah xs y).2.2.1 (kM (ah xs y).2.2.2.1 0) (ah xs x).2.2.1) 1 (by omega) (by omega)) ?_;refine aI (by kernel_rfl) ?_;have hA1:=hA.add h0 6 0 (xZ (ah xs y).2.2.1 (kM (ah xs y).2.2.2.1 0) (ah xs x).2.2.1) [] 1;refine oZ (fA y 1) ?_;refine oZ (fA _ 0) ?_;refine oY (moveA _ us (y,1) ((xs.length:Nat),0) hA1 h1.app (aj.new (by decide) (by decide))) ?_;refine fin [(10002,37)] (aI rfl ?_);refine⟨trivial,⟨rfl,trivial⟩,⟨?_,pR _⟩,trivial⟩
  show _=bJ xs x y;unfold bJ;rw[show((ah xs y).1==7)=false by simpa using q7];rfl
 .have q8:(ah xs y).1≠8:=by have q2:((ah xs y).1==8)=false:=q1;simpa using q2
  have q7:(ah xs y).1=7:=by omega
  refine oY (IC xs us 8 (ah xs y).2.1 (ah xs y).2.2.1 2 [(ah xs x).2.2.1] (by omega) (by omega) (by simp)) ?_;have hA1:=hA.add h0 8 (ah xs y).2.1 (ah xs y).2.2.1 [(ah xs x).2.2.1] 2;refine oZ (fA y 1) ?_;refine oZ (fA _ 0) ?_;refine oY (moveA (xs++[bf 8 (ah xs y).2.1 (ah xs y).2.2.1 [(ah xs x).2.2.1] 2]) us (y,1) ((xs.length:Nat),0) hA1 h1.app (aj.new (by decide) (by decide))) ?_;refine oZ (fA y 2) ?_;refine oZ (fA _ 1) ?_;refine oY (moveA _ us (y,2) ((xs.length:Nat),1) (hA1.move h1.app (aj.new (by decide) (by decide))) ((h2 q7).app.move) ((aj.new (by decide) (by decide)).move)) ?_
  refine fin [(10002,51)] (aI rfl ?_);refine⟨trivial,⟨rfl,trivial⟩,⟨?_,pR _⟩,trivial⟩;show _=bJ xs x y;unfold bJ;rw[show((ah xs y).1==7)=true by simpa using q7];rfl
theorem WB(xs:aS)(us:bW)(x y:Int)(hA:bO xs)(h0:aj xs (0,0))(hl:xs.length<=900000)(hx:0<=x/\x<(xs.length:Nat))(hy1:aj xs (y,1))(h6:(ah xs y).1=11->(ah xs y).2.2.2.1.length=2)(hc:(ah xs y).1≠11->0<=(ah xs x).2.2.1/\(ah xs x).2.2.1<((ah xs y).2.2.2.1.length:Nat)/\(ah xs x).1=9)(hp:(ah xs x).2.2.2.2.length<=1000)(hp0:0<(ah xs x).2.2.2.2.length)(hdd:(ah xs y).2.2.2.1.length<=1000000)(hpy:(ah xs y).2.2.2.2.length<=1000):
  aA Tryz.prog 159 [.ptr 10000 0,.int .i64 x,.int .i64 y] (tA xs us) (.tup []) (Ir 10002 (eZ xs x y) us):=by
 have hy:0<=y/\y<(xs.length:Nat):=⟨hy1.1,hy1.2.1⟩;refine aA.intro (nt:=105) aG mixed (by kernel_rfl) Tryz.func159 rfl rfl rfl rfl rfl rfl ?_;refine aI hy ?_;refine oY (Ns xs us y (by omega) (by omega)) ?_;refine aI (fun q1=> ?_) (fun q1=> ?_)
 .have q2:(ah xs y).1=11:=by have q2:((ah xs y).1==11)=true:=q1;simpa using q2
  have hl2:=h6 q2;refine aI ⟨by decide,by show(1:Int)<((ah xs y).2.2.2.1.length:Nat);omega⟩ ?_;refine aI hx ?_;refine aI (fun q3=> ?_) (fun q3=> ?_)
  .have q4:((ah xs x).2.2.1==0)=false:=by have q4:((ah xs x).2.2.1 !=0)=true:=q3;simpa[bne]using q4
   refine aI ⟨by decide,by show(0:Int)<((ah xs y).2.2.2.1.length:Nat);omega⟩ ?_;refine oY (uQ xs us 12 (ah xs y).2.1 (kM (ah xs y).2.2.2.1 0) 1 (by omega) (by omega)) ?_;have hA1:=hA.add h0 12 (ah xs y).2.1 (kM (ah xs y).2.2.2.1 0) [] 1;refine oZ (fA y 1) ?_;refine oZ (fA _ 0) ?_;refine oY (moveA _ us (y,1) ((xs.length:Nat),0) hA1 hy1.app (aj.new (by decide) (by decide))) ?_;refine fin [(10002,45)] (aI rfl ?_);refine⟨trivial,⟨rfl,trivial⟩,⟨?_,pR _⟩,trivial⟩;show _=eZ xs x y;unfold eZ;rw[show((ah xs y).1==11)=true from q1,q4];rfl
  .have q4:((ah xs x).2.2.1==0)=true:=by have q4:((ah xs x).2.2.1 !=0)=false:=q3;simpa[bne]using q4
   refine oY (uQ xs us 12 (ah xs y).2.1 (kM (ah xs y).2.2.2.1 1) 1 (by omega) (by omega)) ?_;have hA1:=hA.add h0 12 (ah xs y).2.1 (kM (ah xs y).2.2.2.1 1) [] 1;refine oZ (fA y 1) ?_;refine oZ (fA _ 0) ?_;refine oY (moveA _ us (y,1) ((xs.length:Nat),0) hA1 hy1.app (aj.new (by decide) (by decide))) ?_;refine fin [(10002,45)] (aI rfl ?_);refine⟨trivial,⟨rfl,trivial⟩,⟨?_,pR _⟩,trivial⟩;show _=eZ xs x y;unfold eZ;rw[show((ah xs y).1==11)=true from q1,q4];rfl
 .have q2:(ah xs y).1≠11:=by have q2:((ah xs y).1==11)=false:=q1;simpa using q2
  obtain⟨v0,v1,k9⟩:=hc q2
  have hf:nW (ah xs x)=((((ah xs x).2.2.2.2.length-1):Nat):Int):=by
   unfold nW;rw[show((ah xs x).1==9)=true by simpa using k9,qG,qO _ (by omega)];omega
  have hfe:=WZ xs us x;rw[hf]at hfe;refine aI hx ?_;refine oY hfe ?_;refine aI hx ?_;refine aI ⟨v0,v1⟩ ?_;refine oY (uQ xs us 12 (ah xs y).2.1 (kM (ah xs y).2.2.2.1 (ah xs x).2.2.1) 1 (by omega) (by omega)) ?_;refine aI (by kernel_rfl) ?_;refine oZ (fA _ 0) ?_;have h1A:bO (bE xs y (ah xs x).2.2.1):=hA.add h0 _ _ _ _ _;have h1l:(bE xs y (ah xs x).2.2.1).length=xs.length+1:=tO _ _ _;have h1R:aj (bE xs y (ah xs x).2.2.1) (iW (bE xs y (ah xs x).2.2.1).length 0):=by rw[h1l];exact aj.new (by decide) (by decide)
  have h1:∀{p},aj xs p->aj (bE xs y (ah xs x).2.2.1) p:=fun h=>h.app
  have hxi:∀i:Nat,i<((ah xs x).2.2.2.2.length-1)->aj (bE xs y (ah xs x).2.2.1) (x,((i+1:Nat):Int)):=fun i hi=>h1 ⟨hx.1,hx.2,by omega,by show((i+1:Nat):Int)<((ah xs x).2.2.2.2.length:Nat);omega⟩
  refine lp Nat (fun k=>[(12,.int .i64 ((k+1:Nat):Int))])
   (fun k=>[.dL 6 117 [.int .i64 (ah xs y).1,.int .i64 (ah xs y).2.1,.int .i64 (ah xs y).2.2.1,.sl 20,.sl 1000020],.dL 11 119 [.int .i64 (iW (xs.length+1) k).1,.int .i64 (iW (xs.length+1) k).2],.dL 10000 37 [.sl 20000],.row 20000 117 5 aD (sZ (ah xs y).2.1 x (xs.length+1) (bE xs y (ah xs x).2.2.1) k) us]) (fun k=>((ah xs x).2.2.2.2.length-1)-k) (fun k=>k<=((ah xs x).2.2.2.2.length-1)) 0 (Nat.zero_le _) ?_ ?_
  .exact hd [(20000,74)] rfl (aI (aI rfl rfl) trivial) ⟨trivial,⟨⟨rfl,rfl⟩,⟨rfl,rfl⟩,⟨rfl,rfl⟩,rfl,rfl,trivial⟩,trivial,⟨⟨rfl,rfl⟩,⟨rfl,rfl⟩,trivial⟩,trivial,⟨rfl,trivial⟩,⟨rfl,pR _⟩,trivial⟩
  intro k hk;have hcl:(sZ (ah xs y).2.1 x (xs.length+1) (bE xs y (ah xs x).2.2.1) k).length=xs.length+1+k:=by rw[sF,h1l]
  refine aI (fun q3=> ?_) (fun q3=> ?_)
  .have hlt:k<((ah xs x).2.2.2.2.length-1):=by
    have q4:decide (((k+1:Nat):Int)<=((((ah xs x).2.2.2.2.length-1):Nat):Int))=true:=q3;simp only[qQ]at q4;omega
   have hadd:=uQ (sZ (ah xs y).2.1 x (xs.length+1) (bE xs y (ah xs x).2.2.1) k) us 3 (ah xs y).2.1 0 3 (by rw[hcl];omega) (by omega);rw[hcl]at hadd;refine oY hadd ?_
   have hnew:∀s:Int,0<=s->s<3->aj ((sZ (ah xs y).2.1 x (xs.length+1) (bE xs y (ah xs x).2.2.1) k)++[bf 3 (ah xs y).2.1 0 [] 3]) (((xs.length+1+k:Nat):Int),s):=fun s h0 h1=>by
    have:=xJ (lv:=(ah xs y).2.1) (x:=x) (xs:=(bE xs y (ah xs x).2.2.1)) k h0 h1;rw[h1l]at this;exact this
   have hR:=zJ (lv:=(ah xs y).2.1) (x:=x) h1R k;rw[h1l]at hR;have hAk:=zK (lv:=(ah xs y).2.1) (x:=x) h1A (h1 h0) h1R k fun i hi=>hxi i (by omega)
   rw[h1l]at hAk;refine oZ (fA _ 0) ?_;refine oY (G9 ((sZ (ah xs y).2.1 x (xs.length+1) (bE xs y (ah xs x).2.2.1) k)++[bf 3 (ah xs y).2.1 0 [] 3]) us (iW (xs.length+1) k) (((xs.length+1+k:Nat):Int),0) hR.app (hnew 0 (by decide) (by decide))) ?_;refine aI (by kernel_rfl) ?_;refine oZ (fA x _) ?_;refine oZ (fA _ 1) ?_;refine oY (moveA (bD ((sZ (ah xs y).2.1 x (xs.length+1) (bE xs y (ah xs x).2.2.1) k)++[bf 3 (ah xs y).2.1 0 [] 3]) (iW (xs.length+1) k) (((xs.length+1+k:Nat):Int),0)) us (x,((k+1:Nat):Int)) (((xs.length+1+k:Nat):Int),1) ((hAk.add (qp (h1 h0) k) _ _ _ _ _).link hR.app (hnew 0 (by decide) (by decide))) (qp (hxi k hlt) k).app.link (hnew 1 (by decide) (by decide)).link) ?_
   refine oZ (fA _ 2) ?_;refine aY (k+1) (by omega) ?_ ?_
   .exact hd [(20000,85)] rfl (aI (aI (dG (by omega)) rfl) trivial) ⟨trivial,⟨⟨rfl,rfl⟩,⟨rfl,rfl⟩,⟨rfl,rfl⟩,rfl,rfl,trivial⟩,trivial,⟨⟨rfl,rfl⟩,⟨rfl,rfl⟩,trivial⟩,trivial,⟨rfl,trivial⟩,⟨rfl,pR _⟩,trivial⟩
   .show((ah xs x).2.2.2.2.length-1)-(k+1)<((ah xs x).2.2.2.2.length-1)-k;omega
  .have hke:k=((ah xs x).2.2.2.2.length-1):=by
    have q4:decide (((k+1:Nat):Int)<=((((ah xs x).2.2.2.2.length-1):Nat):Int))=false:=q3;simp only[qP]at q4;omega
   have hR:=zJ (lv:=(ah xs y).2.1) (x:=x) h1R k;rw[h1l]at hR;have hAk:=zK (lv:=(ah xs y).2.1) (x:=x) h1A (h1 h0) h1R k fun i hi=>hxi i (by omega)
   rw[h1l]at hAk;refine oZ (fA y 1) ?_;refine oY (moveA (sZ (ah xs y).2.1 x (xs.length+1) (bE xs y (ah xs x).2.2.1) k) us (y,1) (iW (xs.length+1) k) hAk (qp (h1 hy1) k) hR) ?_;refine aI (by kernel_rfl) ?_;refine fin [(10002,20000)] (aI rfl ?_);refine⟨trivial,⟨rfl,trivial⟩,⟨?_,pR _⟩,trivial⟩;show bY (sZ (ah xs y).2.1 x (xs.length+1) (bE xs y (ah xs x).2.2.1) k) (y,1) (iW (xs.length+1) k)=eZ xs x y;unfold eZ;rw[show((ah xs y).1==11)=false from q1,hke];rfl
theorem Lf:bH Tryz.prog 124=true:=by kernel_rfl
theorem Sr(x y:ak):aJ Tryz.prog 124 [.rp aD x,.rp aD y] (.int .i64 (aR x y)):=by
 refine aJ.intro (nt:=70) aG mixed Lf Tryz.func124 rfl rfl rfl rfl rfl ?_;refine aI (by kernel_rfl) ?_;refine aI (fun q1=> ?_) (fun q1=> ?_)
 .refine⟨?_,rfl⟩;unfold aR;rw[show eO x y=true from q1];rfl
 refine aI (by kernel_rfl) ?_;refine aI (fun q2=> ?_) (fun q2=> ?_)
 .refine⟨?_,rfl⟩;unfold aR;rw[show eO x y=false from q1,show iZ x y=true from q2];rfl
 refine oZ (Nu _ _ _ _) ?_;refine aI (by kernel_rfl) ?_;refine⟨?_,rfl⟩;unfold aR;rw[show eO x y=false from q1,show iZ x y=false from q2];rfl
theorem MK(xs:aS)(us:bW)(i j:Int):aA Tryz.prog 124 [.ep 10000 5 i 0,.ep 10000 5 j 0] [.row 10000 117 5 aD xs us] (.int .i64 (aR (ah xs i) (ah xs j))) [.row 10000 117 5 aD xs us]:=
 aA.vC aG [0,0] Lf (Sr (ah xs i) (ah xs j)) rfl
theorem Lh:bH Tryz.prog 153=true:=by kernel_rfl
theorem Tm(xs:aS)(a b:Int)(ha:0<=a/\a<(xs.length:Nat))(hb:0<=b/\b<(xs.length:Nat)):aJ Tryz.prog 153 [.rp aZ xs,.int .i64 a,.int .i64 b] (.tup [.int .i64 (au xs a b).1,.int .i64 (au xs a b).2]):=by
 refine aJ.intro (nt:=44) aG mixed Lh Tryz.func153 rfl rfl rfl rfl rfl ?_;refine aI ha ?_;refine aI hb ?_;refine oZ (Tk _ _ _ _) ?_;refine aI (by kernel_rfl) ?_;refine aI (fun q1=> ?_) (fun q1=> ?_)
 .have e:au xs a b=(b,a):=by unfold au;rw[show(aP (ah xs a).1 (ah xs a).2.1 (ah xs b).1 (ah xs b).2.1==2)=true from q1];rfl
  rw[e];exact rfl
 .have e:au xs a b=(a,b):=by unfold au;rw[show(aP (ah xs a).1 (ah xs a).2.1 (ah xs b).1 (ah xs b).2.1==2)=false from q1];rfl
  rw[e];exact rfl
theorem maxS(a b:Int):aJ Tryz.prog 71 [.int .i64 a,.int .i64 b] (.int .i64 (Jz a b)):=by
 refine aJ.intro (nt:=10) aG mixed (by kernel_rfl) Tryz.func71 rfl rfl rfl rfl rfl ?_;refine aI (fun q1=> ?_) (fun q1=> ?_)
 .refine⟨?_,rfl⟩;unfold Jz;rw[show decide (b<a)=true from q1];rfl
 .refine⟨?_,rfl⟩;unfold Jz;rw[show decide (b<a)=false from q1];rfl
theorem Zbe(t:aS)(hl:t.length<=2000000):aJ Tryz.prog 193 [.rp aZ t] (.int .i64 (lX t t.length)):=by
 refine aJ.intro (nt:=25) aG mixed (by kernel_rfl) Tryz.func193 rfl rfl rfl rfl rfl ?_;refine lp Nat (fun k=>[(4,.int .i64 (k:Nat)),(3,.int .i64 (lX t k))]) (fun _=>[]) (fun k=>t.length-k) (fun k=>k<=t.length) 0 (Nat.zero_le _) ?_ ?_
 .exact hd [] rfl (aI (aI rfl rfl) (aI (aI rfl rfl) trivial)) trivial
 intro k hk;refine aI (fun q1=> ?_) (fun q1=> ?_)
 .have hlt:k<t.length:=by simpa using q1
  refine aI (show 0<=((k:Nat):Int)/\((k:Nat):Int)<(t.length:Nat) by omega) ?_;refine oZ (maxS _ _) ?_;refine aY (k+1) hlt ?_ ?_
  .exact hd [] rfl (aI (aI (dG (by omega)) rfl) (aI (aI rfl rfl) trivial)) trivial
  .show t.length-(k+1)<t.length-k;omega
 .have hge:t.length<=k:=by simpa using q1
  have hke:k=t.length:=by omega
  subst hke;exact⟨rfl,rfl⟩
theorem Np:bH Tryz.prog 141=true:=by kernel_rfl
theorem YD(t:aS)(hl:t.length<=1000000):aJ Tryz.prog 141 [.rp aZ t] (.int .i64 (fE t t.length:Nat)):=by
 refine aJ.intro (nt:=26) aG mixed Np Tryz.func141 rfl rfl rfl rfl rfl ?_;refine lp Nat (fun k=>[(4,.int .i64 (k:Nat)),(3,.int .i64 (fE t k:Nat))]) (fun _=>[]) (fun k=>t.length-k) (fun k=>k<=t.length) 0 (Nat.zero_le _) ?_ ?_
 .exact hd [] rfl (aI (aI rfl rfl) (aI (aI rfl rfl) trivial)) trivial
 intro k hk;refine aI (fun q1=> ?_) (fun q1=> ?_)
 .have hlt:k<t.length:=by simpa using q1
  have hle:=Hf t k;refine aI (show 0<=((k:Nat):Int)/\((k:Nat):Int)<(t.length:Nat) by omega) ?_;refine aI (fun q2=> ?_) (fun q2=> ?_)
  .refine aY (k+1) hlt ?_ ?_
   .refine hd [] rfl (aI (aI (dG (by omega)) rfl) (aI (aI ?_ rfl) trivial)) trivial;show IntKind.i64.wrap ((fE t k:Nat)+1)=((fE t (k+1):Nat):Int);rw[dG (by omega)];rw[show fE t (k+1)=(bif (ah t (k:Nat)).1 !=0 then fE t k+1 else fE t k) from rfl,show((ah t (k:Nat)).1 !=0)=true from q2];rfl
   .show t.length-(k+1)<t.length-k;omega
  .refine aY (k+1) hlt ?_ ?_
   .refine hd [] rfl (aI (aI (dG (by omega)) rfl) (aI (aI ?_ rfl) trivial)) trivial;show((fE t k:Nat):Int)=((fE t (k+1):Nat):Int);rw[show fE t (k+1)=(bif (ah t (k:Nat)).1 !=0 then fE t k+1 else fE t k) from rfl,show((ah t (k:Nat)).1 !=0)=false from q2];rfl
   .show t.length-(k+1)<t.length-k;omega
 .have hge:t.length<=k:=by simpa using q1
  have hke:k=t.length:=by omega
  subst hke;exact⟨rfl,rfl⟩
theorem TF{p lo hi d:Int}(h:gG p lo hi=true):oD p lo hi d=(IntKind.i64.wrap (p+d),0):=by
 obtain⟨h1,h2⟩:=iU h;unfold oD;rw[show decide (p<lo)=false by simpa using h1,show decide (hi<p)=false by simpa using h2];rfl
theorem TG{p lo hi d:Int}(h:gG p lo hi=false):oD p lo hi d=(0,2):=by
 rcases YA h with h1|h1
 .unfold oD;rw[show decide (p<lo)=true by simpa using h1];rfl
 .unfold oD;rw[show decide (hi<p)=true by simpa using h1];cases decide (p<lo)<;>rfl
theorem zY(c p:Int):aJ Tryz.prog 194 [.int .i64 c,.int .i64 p] (.tup [.int .i64 (dD c p).1,.int .i64 (dD c p).2]):=by
 have leafT:∀{lo hi d v:Int},dD c p=oD p lo hi d->(gG p lo hi=true->v=IntKind.i64.wrap (p+d))->∀q:(!(gG p lo hi))=false,(SV.tup [.int .i64 v,.int .i64 0]:SV)=.tup [.int .i64 (dD c p).1,.int .i64 (dD c p).2]:=fun {lo hi d v} e hv q=>by
  have h:gG p lo hi=true:=by simpa using q
  rw[e,TF h,hv h]
 have leafF:∀{lo hi d:Int},dD c p=oD p lo hi d->∀q:(!(gG p lo hi))=true,(SV.tup [.int .i64 0,.int .i64 2]:SV)=.tup [.int .i64 (dD c p).1,.int .i64 (dD c p).2]:=fun {lo hi d} e q=>by
  have h:gG p lo hi=false:=by simpa using q
  rw[e,TG h]
 refine aJ.intro (nt:=36) aG mixed (by kernel_rfl) Tryz.func194 rfl rfl rfl rfl rfl ?_;refine aI (fun q1=> ?_) (fun q1=> ?_)
 .refine aI (fun _=> ?_) (fun h=>by rw[show(c==1)=true from q1]at h;cases h);refine oZ (F5 _ _ _) ?_;refine aI (fun q=> ?_) (fun q=> ?_)
  .exact leafF (lo:=0) (hi:=0) (d:= -2) (by simp only[dD,q1,qG,qH]) q
  .exact leafT (lo:=0) (hi:=0) (d:= -2) (by simp only[dD,q1,qG,qH]) (fun h=>by obtain⟨h1,h2⟩:=iU h;have e0:p=0:=(by omega);subst e0;rfl) q
 refine aI (fun q2=> ?_) (fun q2=> ?_)
 .refine oZ (F5 _ _ _) ?_;refine aI (fun q=> ?_) (fun q=> ?_)
  .exact leafF (lo:=0) (hi:=0) (d:= -2) (by simp only[dD,q1,q2,qG,qH]) q
  .exact leafT (lo:=0) (hi:=0) (d:= -2) (by simp only[dD,q1,q2,qG,qH]) (fun h=>by obtain⟨h1,h2⟩:=iU h;have e0:p=0:=(by omega);subst e0;rfl) q
 refine aI (fun q3=> ?_) (fun q3=> ?_)
 .refine oZ (F5 _ _ _) ?_;refine aI (fun q=> ?_) (fun q=> ?_)
  .exact leafF (lo:=0) (hi:=3) (d:=0) (by simp only[dD,q1,q2,q3,qG,qH]) q
  .exact leafT (lo:=0) (hi:=3) (d:=0) (by simp only[dD,q1,q2,q3,qG,qH]) (fun h=>by obtain⟨h1,h2⟩:=iU h;rw[qO _ (by omega)];omega) q
 refine aI (fun q4=> ?_) (fun q4=> ?_)
 .refine oZ (F5 _ _ _) ?_;refine aI (fun q=> ?_) (fun q=> ?_)
  .exact leafF (lo:=0) (hi:=3) (d:= -2) (by simp only[dD,q1,q2,q3,q4,qG,qH]) q
  .exact leafT (lo:=0) (hi:=3) (d:= -2) (by simp only[dD,q1,q2,q3,q4,qG,qH]) (fun _=>rfl) q
 refine aI (fun q5=> ?_) (fun q5=> ?_)
 .refine oZ (F5 _ _ _) ?_;refine aI (fun q=> ?_) (fun q=> ?_)
  .exact leafF (lo:=0) (hi:=0) (d:= -1) (by simp only[dD,q1,q2,q3,q4,q5,qG,qH]) q
  .exact leafT (lo:=0) (hi:=0) (d:= -1) (by simp only[dD,q1,q2,q3,q4,q5,qG,qH]) (fun h=>by obtain⟨h1,h2⟩:=iU h;have e0:p=0:=(by omega);subst e0;rfl) q
 refine aI (fun q6=> ?_) (fun q6=> ?_)
 .refine oZ (F5 _ _ _) ?_;refine aI (fun q=> ?_) (fun q=> ?_)
  .exact leafF (lo:=0) (hi:=3) (d:= -1) (by simp only[dD,q1,q2,q3,q4,q5,q6,qG,qH]) q
  .exact leafT (lo:=0) (hi:=3) (d:= -1) (by simp only[dD,q1,q2,q3,q4,q5,q6,qG,qH]) (fun _=>rfl) q
 refine aI (fun q7=> ?_) (fun q7=> ?_)
 .refine oZ (F5 _ _ _) ?_;refine aI (fun q=> ?_) (fun q=> ?_)
  .exact leafF (lo:=2) (hi:=600) (d:= -2) (by simp only[dD,q1,q2,q3,q4,q5,q6,q7,qG,qH]) q
  .exact leafT (lo:=2) (hi:=600) (d:= -2) (by simp only[dD,q1,q2,q3,q4,q5,q6,q7,qG,qH]) (fun _=>rfl) q
 .have e:dD c p=(0,2):=by simp only[dD,q1,q2,q3,q4,q5,q6,q7,qG,qH]
  rw[e];exact rfl
theorem dupA(xs:aS)(us:bW)(x y:Int)(hA:bO xs)(h0:aj xs (0,0))(hl:xs.length<=900000)(hx1:aj xs (x,1))(hx2:aj xs (x,2))(hy:0<=y/\y<(xs.length:Nat))(hp:(ah xs y).2.2.2.2.length<=1000)(hdt:(ah xs y).2.2.2.1.length<=1000000)(hp0:0<(ah xs y).2.2.2.2.length):
  aA Tryz.prog 155 [.ptr 10000 0,.int .i64 x,.int .i64 y] (tA xs us) (.tup []) (Ir 10002 (bK xs x y) us):=by
 have hx:0<=x/\x<(xs.length:Nat):=⟨hx1.1,hx1.2.1⟩;refine aA.intro (nt:=102) aG mixed (by kernel_rfl) Tryz.func155 rfl rfl rfl rfl rfl rfl ?_;refine aI hx ?_;refine aI hy ?_;refine oY (Ns xs us y (by omega) (by omega)) ?_;refine oY (IC xs us (ah xs y).1 (ah xs y).2.1 (ah xs y).2.2.1 (ah xs y).2.2.2.2.length (ah xs y).2.2.2.1 (by omega) (by omega) (by omega)) ?_;have hadd2:=IC (xs++[lD xs y]) us (ah xs y).1 (ah xs y).2.1 (ah xs y).2.2.1 (ah xs y).2.2.2.2.length (ah xs y).2.2.2.1 (by rw[qA,qJ];omega) (by omega) (by omega)
 rw[show(xs++[lD xs y]).length=xs.length+1 by simp]at hadd2;refine oY hadd2 ?_;have h2A:=zO (y:=y) hA h0
 have hFS:∀k,(bF (ah xs x).2.1 ((xs.length:Nat):Int) ((xs.length+1:Nat):Int) (dup2 xs y) k)=bV x ((xs.length:Nat):Int) ((xs.length+1:Nat):Int) (dup2 xs y) k:=fun k=>by
  have h:=(mh (x:=x) (c:=((xs.length:Nat):Int)) (d:=((xs.length+1:Nat):Int)) (xs:=dup2 xs y) (by rw[iF];omega) k).1;have e:(ah (dup2 xs y) x).2.1=(ah xs x).2.1:=by unfold dup2;rw[qF,bZ (by omega)]
  rw[e]at h;exact h
 have hcd:∀i:Nat,i<=((ah xs y).2.2.2.2.length-1)->aj (dup2 xs y) (((xs.length:Nat):Int),(i:Nat))/\aj (dup2 xs y) (((xs.length+1:Nat):Int),(i:Nat)):=fun i hi=>⟨uX (by omega) (by omega),uY (by omega) (by omega)⟩
 refine lp Nat (fun k=>[(11,.int .i64 ((k+1:Nat):Int))]) (fun k=>[.dL 10000 37 [.sl 20000],.row 20000 117 5 aD (bF (ah xs x).2.1 ((xs.length:Nat):Int) ((xs.length+1:Nat):Int) (dup2 xs y) k) us]) (fun k=>((ah xs y).2.2.2.2.length-1)-k) (fun k=>k<=((ah xs y).2.2.2.2.length-1)) 0 (Nat.zero_le _) ?_ ?_
 .exact hd [(20000,53)] rfl (aI (aI rfl rfl) trivial) ⟨trivial,⟨rfl,trivial⟩,⟨rfl,pR _⟩,trivial⟩
 intro k hk;have hcl:(bF (ah xs x).2.1 ((xs.length:Nat):Int) ((xs.length+1:Nat):Int) (dup2 xs y) k).length=xs.length+2+k:=by rw[hFS,jq,iF]
 refine aI (fun q1=> ?_) (fun q1=> ?_)
 .have q2:((k+1:Nat):Int)<((ah xs y).2.2.2.2.length:Nat):=by have q2:decide (((k+1:Nat):Int)<((ah xs y).2.2.2.2.length:Nat))=true:=q1;simpa using q2
  refine oY (uQ (bF (ah xs x).2.1 ((xs.length:Nat):Int) ((xs.length+1:Nat):Int) (dup2 xs y) k) us 4 (ah xs x).2.1 0 3 (by rw[hcl];omega) (by omega)) ?_;have hc:=hcd (k+1) (by omega);have hin:∀{p},aj (dup2 xs y) p->aj (bF (ah xs x).2.1 ((xs.length:Nat):Int) ((xs.length+1:Nat):Int) (dup2 xs y) k) p:=fun h=>by rw[hFS];exact dA h k
  refine oZ (fA _ 1) ?_;refine oZ (fA _ _) ?_;refine oY (G9 ((bF (ah xs x).2.1 ((xs.length:Nat):Int) ((xs.length+1:Nat):Int) (dup2 xs y) k)++[bf 4 (ah xs x).2.1 0 [] 3]) us (((bF (ah xs x).2.1 ((xs.length:Nat):Int) ((xs.length+1:Nat):Int) (dup2 xs y) k).length:Nat),1) (((xs.length:Nat):Int),((k+1:Nat):Int)) (aj.new (by decide) (by decide)) (hin hc.1).app) ?_;refine oZ (fA _ 2) ?_;refine oZ (fA _ _) ?_;refine oY (G9 (bD ((bF (ah xs x).2.1 ((xs.length:Nat):Int) ((xs.length+1:Nat):Int) (dup2 xs y) k)++[bf 4 (ah xs x).2.1 0 [] 3]) (((bF (ah xs x).2.1 ((xs.length:Nat):Int) ((xs.length+1:Nat):Int) (dup2 xs y) k).length:Nat),1) (((xs.length:Nat):Int),((k+1:Nat):Int))) us (((bF (ah xs x).2.1 ((xs.length:Nat):Int) ((xs.length+1:Nat):Int) (dup2 xs y) k).length:Nat),2) (((xs.length+1:Nat):Int),((k+1:Nat):Int)) (aj.link (aj.new (by decide) (by decide))) (hin hc.2).app.link) ?_
  refine aY (k+1) (by omega) ?_ ?_
  .exact hd [(20000,61)] rfl (aI (aI (dG (by omega)) rfl) trivial) ⟨trivial,⟨rfl,trivial⟩,⟨rfl,pR _⟩,trivial⟩
  .show((ah xs y).2.2.2.2.length-1)-(k+1)<((ah xs y).2.2.2.2.length-1)-k;omega
 .have q2:((ah xs y).2.2.2.2.length:Nat)<=((k+1:Nat):Int):=by have q2:decide (((k+1:Nat):Int)<((ah xs y).2.2.2.2.length:Nat))=false:=q1;simpa using q2
  have hke:k=((ah xs y).2.2.2.2.length-1):=by omega
  subst hke;have hd3:(bF (ah xs x).2.1 ((xs.length:Nat):Int) ((xs.length+1:Nat):Int) (dup2 xs y) ((ah xs y).2.2.2.2.length-1))=dup3 xs x y:=hFS _;have h3A:bO (dup3 xs x y):=om h2A (pG h0) _ hcd;have h3:∀{p},aj xs p->aj (dup3 xs x y) p:=fun h=>dA (pG h) _
  have hc0:aj (dup3 xs x y) (((xs.length:Nat):Int),0):=dA (uX (by decide) (by omega)) _;have hd0:aj (dup3 xs x y) (((xs.length+1:Nat):Int),0):=dA (uY (by decide) (by omega)) _;have hm1:=moveA (dup3 xs x y) us (x,1) ((xs.length:Nat),0) h3A (h3 hx1) hc0;rw[<-hd3]at hm1;refine oZ (fA x 1) ?_;refine oZ (fA _ 0) ?_;refine oY hm1 ?_;have hm2:=moveA (bY (dup3 xs x y) (x,1) ((xs.length:Nat),0)) us (x,2) (((xs.length+1:Nat):Int),0) (h3A.move (h3 hx1) hc0) (h3 hx2).move hd0.move;rw[<-hd3]at hm2;refine oZ (fA x 2) ?_
  refine oZ (fA _ 0) ?_;refine oY hm2 ?_;have h4A:bO (mM xs x y):=(h3A.move (h3 hx1) hc0).move (h3 hx2).move hd0.move
  have hyi:∀i:Nat,i<((ah xs y).2.2.2.2.length-1)->aj (mM xs x y) (y,((i:Nat):Int)+1)/\aj (mM xs x y) (((xs.length+2+i:Nat):Int),0):=fun i hi=>by
   refine⟨(h3 ⟨hy.1,hy.2,by omega,?_⟩).move.move,?_⟩
   .show((i:Nat):Int)+1<((ah xs y).2.2.2.2.length:Nat);omega
   .have:=(tQ (x:=x) (c:=((xs.length:Nat):Int)) (d:=((xs.length+1:Nat):Int)) (xs:=dup2 xs y) hi).move (p:=(x,1)) (q:=(((xs.length:Nat):Int),0));have:=this.move (p:=(x,2)) (q:=(((xs.length+1:Nat):Int),0));rw[iF]at this;exact this
  refine lp Nat (fun k=>[(13,.int .i64 ((k+1:Nat):Int))]) (fun k=>[.dL 10000 37 [.sl 20000],.row 20000 117 5 aD (cB y (xs.length+2) (mM xs x y) k) us]) (fun k=>((ah xs y).2.2.2.2.length-1)-k) (fun k=>k<=((ah xs y).2.2.2.2.length-1)) 0 (Nat.zero_le _) ?_ ?_
  .refine hd [] rfl (aI (aI rfl rfl) trivial) ⟨trivial,⟨rfl,trivial⟩,⟨?_,pR _⟩,trivial⟩;show bY (bY (bF (ah xs x).2.1 ((xs.length:Nat):Int) ((xs.length+1:Nat):Int) (dup2 xs y) ((ah xs y).2.2.2.2.length-1)) (x,1) ((xs.length:Nat),0)) (x,2) (((xs.length+1:Nat):Int),0)=mM xs x y;rw[hd3];rfl
  intro k hk;refine aI (fun q1=> ?_) (fun q1=> ?_)
  .have q2:((k+1:Nat):Int)<((ah xs y).2.2.2.2.length:Nat):=by have q2:decide (((k+1:Nat):Int)<((ah xs y).2.2.2.2.length:Nat))=true:=q1;simpa using q2
   have hyk:=hyi k (by omega);have hrp:=moveA (cB y (xs.length+2) (mM xs x y) k) us (y,((k:Nat):Int)+1) (((xs.length+2+k:Nat):Int),0) (mW h4A k fun i hi=>hyi i (by omega)) (fT hyk.1 k) (fT hyk.2 k);have e1:((k:Nat):Int)+1=((k+1:Nat):Int):=by omega
   have e2:((xs.length+2+k:Nat):Int)=IntKind.i64.wrap (((xs.length+1:Nat):Int)+((k+1:Nat):Int)):=by rw[qO _ (by omega)];omega
   rw[e1,e2]at hrp;refine oZ (fA y _) ?_;refine oZ (fA _ 0) ?_;refine oY hrp ?_;refine aY (k+1) (by omega) ?_ ?_
   .refine hd [] rfl (aI (aI (dG (by omega)) rfl) trivial) ⟨trivial,⟨rfl,trivial⟩,⟨?_,pR _⟩,trivial⟩;show bY (cB y (xs.length+2) (mM xs x y) k) (y,((k+1:Nat):Int)) (IntKind.i64.wrap (((xs.length+1:Nat):Int)+((k+1:Nat):Int)),0)=cB y (xs.length+2) (mM xs x y) (k+1);rw[<-e2,<-e1];rfl
   .show((ah xs y).2.2.2.2.length-1)-(k+1)<((ah xs y).2.2.2.2.length-1)-k;omega
  .have q2:((ah xs y).2.2.2.2.length:Nat)<=((k+1:Nat):Int):=by have q2:decide (((k+1:Nat):Int)<((ah xs y).2.2.2.2.length:Nat))=false:=q1;simpa using q2
   have hke:k=((ah xs y).2.2.2.2.length-1):=by omega
   refine fin [(10002,20000)] (aI rfl ?_);refine⟨trivial,⟨rfl,trivial⟩,⟨?_,pR _⟩,trivial⟩;show cB y (xs.length+2) (mM xs x y) k=bK xs x y;rw[hke];rfl
theorem expA(t:aS)(xs:aS)(us:bW)(x y:Int)(lv:Int)(hlv0:(ah xs x).2.1=lv)(hx:0<=x/\x<(xs.length:Nat))(hl:xs.length<=900000)(hs:dK t)(ht:1<=t.length)(htl:t.length<=1000)(ht0:0<(ah t 0).2.2.2.2.length)(hlv1:0<=lv/\lv<=8)(hlt8:∀i:Nat,0<=(ah t i).2.1/\(ah t i).2.1<=8)
  (hpt:∀i j:Nat,AQ (elt (dflt aK) (ah t (i:Nat)).2.2.2.2 (j:Nat)).1) (hy:aj xs (y,0)) (htop:aj (xs++oC lv ((xs.length:Nat)-1:Int) t (t.length-1)) (((xs.length:Nat)-1:Int)+(ay t (0,0)).1,(ay t (0,0)).2)):
  aA Tryz.prog 160 [.rp aZ t,.ptr 10000 0,.int .i64 x,.int .i64 y] (tA xs us) (.tup []) (Ir 10002 (iG t lv xs y) us):=by
 subst hlv0;refine aA.intro (nt:=99) aG mixed (by kernel_rfl) Tryz.func160 rfl rfl rfl rfl rfl rfl ?_;refine aI hx ?_;have hwb:IntKind.i64.wrap ((xs.length:Nat)-1)=((xs.length:Nat)-1:Int):=qO _ (by omega);generalize hlve:(ah xs x).2.1=lv at*;refine lp Nat (fun k=>[(10,.int .i64 ((k+1:Nat):Int)),(8,.int .i64 lv),(9,.int .i64 ((xs.length:Nat)-1:Int))]) (fun k=>[.dL 10000 37 [.sl 20000],.row 20000 117 5 aD (xs++oC lv ((xs.length:Nat)-1:Int) t k) us]) (fun k=>t.length-1-k) (fun k=>k+1<=t.length) 0 ht ?_ ?_
 .refine hd [(20000,10001)] rfl (aI (aI rfl rfl) (aI (aI hlve rfl) (aI (aI hwb rfl) trivial))) ⟨trivial,⟨rfl,trivial⟩,⟨?_,pR _⟩,trivial⟩;show xs=(xs++oC lv ((xs.length:Nat)-1:Int) t 0);unfold oC;simp
 intro k hk;refine aI (fun q1=> ?_) (fun q1=> ?_)
 .have hlt:k+1<t.length:=by
   have q2:decide (((k+1:Nat):Int)<(t.length:Nat))=true:=q1;have q3:((k+1:Nat):Int)<(t.length:Nat):=by simpa using q2
   omega
  refine aI (show 0<=((k+1:Nat):Int)/\((k+1:Nat):Int)<(t.length:Nat) by omega) ?_;refine oY (Nt (ah t ((k+1:Nat):Int)) (hs.2 (k+1)).1 (hs.2 (k+1)).2) ?_;refine oZ (Jp _) ?_;have hl8:=hlt8 (k+1);refine aI (fun q2=> ?_) (fun q2=> ?_)
  .have hlev:bX (ah t ((k+1:Nat):Int)).1=true:=q2;refine lp Nat (fun j=>[(12,.int .i64 (j:Nat))]) (fun j=>[.dL 11 117 [.int .i64 (ah t ((k+1:Nat):Int)).1,.int .i64 (IntKind.i64.wrap ((ah t ((k+1:Nat):Int)).2.1+lv)),.int .i64 (ah t ((k+1:Nat):Int)).2.2.1,.sl 43,.sl 21001],.dL 10000 37 [.sl 21000],.row 21000 117 5 aD (xs++oC lv ((xs.length:Nat)-1:Int) t k) us,.row 43 2 1 (.int .i64) (ah t ((k+1:Nat):Int)).2.2.2.1 [],.row 21001 119 2 aK (gX ((xs.length:Nat)-1:Int) (ah t ((k+1:Nat):Int)).2.2.2.2 j) []]) (fun j=>(ah t ((k+1:Nat):Int)).2.2.2.2.length-j) (fun j=>j<=(ah t ((k+1:Nat):Int)).2.2.2.2.length) 0 (Nat.zero_le _) ?_ ?_
   .exact hd [(21000,20000),(21001,1000043)] rfl (aI (aI rfl rfl) trivial) ⟨trivial,⟨⟨rfl,rfl⟩,⟨rfl,rfl⟩,⟨rfl,rfl⟩,rfl,rfl,trivial⟩,trivial,⟨rfl,trivial⟩,⟨rfl,pR _⟩,⟨rfl,nP⟩,⟨rfl,nP⟩,trivial⟩
   intro j hj;refine aI (fun q3=> ?_) (fun q3=> ?_)
   .have hlt2:j<(ah t ((k+1:Nat):Int)).2.2.2.2.length:=by
     have q4:decide (((j:Nat):Int)<((gX ((xs.length:Nat)-1:Int) (ah t ((k+1:Nat):Int)).2.2.2.2 j).length:Nat))=true:=q3;rw[qg]at q4;simpa using q4
    have hpv:AQ (elt (dflt aK) (ah t ((k+1:Nat):Int)).2.2.2.2 (j:Nat)).1:=hpt (k+1) j;unfold AQ at hpv;have hps:(ah t ((k+1:Nat):Int)).2.2.2.2.length<=1048576:=(hs.2 (k+1)).2;have hat:elt (dflt aK) (gX ((xs.length:Nat)-1:Int) (ah t ((k+1:Nat):Int)).2.2.2.2 j) (j:Nat)=elt (dflt aK) (ah t ((k+1:Nat):Int)).2.2.2.2 (j:Nat):=Ae hlt2;have hw:IntKind.i64.wrap ((elt (dflt aK) (ah t ((k+1:Nat):Int)).2.2.2.2 (j:Nat)).1+((xs.length:Nat)-1:Int))=(elt (dflt aK) (ah t ((k+1:Nat):Int)).2.2.2.2 (j:Nat)).1+((xs.length:Nat)-1:Int):=qO _ (by omega)
    have hbnd:0<=((j:Nat):Int)/\((j:Nat):Int)<((gX ((xs.length:Nat)-1:Int) (ah t ((k+1:Nat):Int)).2.2.2.2 j).length:Nat):=by rw[qg];omega
    refine aI hbnd ?_;refine aI hbnd ?_;refine aY (j+1) hlt2 ?_ ?_
    .refine hd [] rfl (aI (aI (dG (by omega)) rfl) trivial) ⟨trivial,⟨⟨rfl,rfl⟩,⟨rfl,rfl⟩,⟨rfl,rfl⟩,rfl,rfl,trivial⟩,trivial,⟨rfl,trivial⟩,⟨rfl,pR _⟩,⟨rfl,nP⟩,⟨?_,nP⟩,trivial⟩;show(gX ((xs.length:Nat)-1:Int) (ah t ((k+1:Nat):Int)).2.2.2.2 j).set j (IntKind.i64.wrap ((elt (dflt aK) (gX ((xs.length:Nat)-1:Int) (ah t ((k+1:Nat):Int)).2.2.2.2 j) (j:Nat)).1+((xs.length:Nat)-1:Int)),(elt (dflt aK) (gX ((xs.length:Nat)-1:Int) (ah t ((k+1:Nat):Int)).2.2.2.2 j) (j:Nat)).2)=gX ((xs.length:Nat)-1:Int) (ah t ((k+1:Nat):Int)).2.2.2.2 (j+1)
     rw[y9 hlt2,hat,hw]
    .show(ah t ((k+1:Nat):Int)).2.2.2.2.length-(j+1)<(ah t ((k+1:Nat):Int)).2.2.2.2.length-j;omega
   have hje:j=(ah t ((k+1:Nat):Int)).2.2.2.2.length:=by
    have q4:decide (((j:Nat):Int)<((gX ((xs.length:Nat)-1:Int) (ah t ((k+1:Nat):Int)).2.2.2.2 j).length:Nat))=false:=q3;rw[qg]at q4;have q5:(ah t ((k+1:Nat):Int)).2.2.2.2.length<=j:=by simpa using q4
    omega
   refine aI (by show(xs++oC lv ((xs.length:Nat)-1:Int) t k).length+1<=_;rw[qA,KO (by omega)];have:=hs.1;omega) ?_;refine aI (by kernel_rfl) ?_;refine aY (k+1) (by show k+1+1<=t.length;omega) ?_ ?_
   .refine hd [(20000,76)] rfl (aI (aI (dG (by have:=hs.1;omega)) rfl) (aI (aI rfl rfl) (aI (aI rfl rfl) trivial))) ⟨trivial,⟨rfl,trivial⟩,⟨?_,pR _⟩,trivial⟩;show(xs++oC lv ((xs.length:Nat)-1:Int) t k)++[((ah t ((k+1:Nat):Int)).1,(IntKind.i64.wrap ((ah t ((k+1:Nat):Int)).2.1+lv)),(ah t ((k+1:Nat):Int)).2.2.1,(ah t ((k+1:Nat):Int)).2.2.2.1,gX ((xs.length:Nat)-1:Int) (ah t ((k+1:Nat):Int)).2.2.2.2 j)]=(xs++oC lv ((xs.length:Nat)-1:Int) t (k+1));rw[GQ hlt,hje,BA,qF]
    congr 2
    unfold bP jy;rw[show bX (ah t ((k+1:Nat):Int)).kind=true from hlev,qO _ (by omega)];rfl
   .show t.length-1-(k+1)<t.length-1-k;omega
  .have hlev:bX (ah t ((k+1:Nat):Int)).1=false:=q2;refine lp Nat (fun j=>[(12,.int .i64 (j:Nat))]) (fun j=>[.dL 11 117 [.int .i64 (ah t ((k+1:Nat):Int)).1,.int .i64 (ah t ((k+1:Nat):Int)).2.1,.int .i64 (ah t ((k+1:Nat):Int)).2.2.1,.sl 43,.sl 21001],.dL 10000 37 [.sl 21000],.row 21000 117 5 aD (xs++oC lv ((xs.length:Nat)-1:Int) t k) us,.row 43 2 1 (.int .i64) (ah t ((k+1:Nat):Int)).2.2.2.1 [],.row 21001 119 2 aK (gX ((xs.length:Nat)-1:Int) (ah t ((k+1:Nat):Int)).2.2.2.2 j) []]) (fun j=>(ah t ((k+1:Nat):Int)).2.2.2.2.length-j) (fun j=>j<=(ah t ((k+1:Nat):Int)).2.2.2.2.length) 0 (Nat.zero_le _) ?_ ?_
   .exact hd [(21000,20000),(21001,1000043)] rfl (aI (aI rfl rfl) trivial) ⟨trivial,⟨⟨rfl,rfl⟩,⟨rfl,rfl⟩,⟨rfl,rfl⟩,rfl,rfl,trivial⟩,trivial,⟨rfl,trivial⟩,⟨rfl,pR _⟩,⟨rfl,nP⟩,⟨rfl,nP⟩,trivial⟩
   intro j hj;refine aI (fun q3=> ?_) (fun q3=> ?_)
   .have hlt2:j<(ah t ((k+1:Nat):Int)).2.2.2.2.length:=by
     have q4:decide (((j:Nat):Int)<((gX ((xs.length:Nat)-1:Int) (ah t ((k+1:Nat):Int)).2.2.2.2 j).length:Nat))=true:=q3;rw[qg]at q4;simpa using q4
    have hpv:AQ (elt (dflt aK) (ah t ((k+1:Nat):Int)).2.2.2.2 (j:Nat)).1:=hpt (k+1) j;unfold AQ at hpv;have hps:(ah t ((k+1:Nat):Int)).2.2.2.2.length<=1048576:=(hs.2 (k+1)).2;have hat:elt (dflt aK) (gX ((xs.length:Nat)-1:Int) (ah t ((k+1:Nat):Int)).2.2.2.2 j) (j:Nat)=elt (dflt aK) (ah t ((k+1:Nat):Int)).2.2.2.2 (j:Nat):=Ae hlt2;have hw:IntKind.i64.wrap ((elt (dflt aK) (ah t ((k+1:Nat):Int)).2.2.2.2 (j:Nat)).1+((xs.length:Nat)-1:Int))=(elt (dflt aK) (ah t ((k+1:Nat):Int)).2.2.2.2 (j:Nat)).1+((xs.length:Nat)-1:Int):=qO _ (by omega)
    have hbnd:0<=((j:Nat):Int)/\((j:Nat):Int)<((gX ((xs.length:Nat)-1:Int) (ah t ((k+1:Nat):Int)).2.2.2.2 j).length:Nat):=by rw[qg];omega
    refine aI hbnd ?_;refine aI hbnd ?_;refine aY (j+1) hlt2 ?_ ?_
    .refine hd [] rfl (aI (aI (dG (by omega)) rfl) trivial) ⟨trivial,⟨⟨rfl,rfl⟩,⟨rfl,rfl⟩,⟨rfl,rfl⟩,rfl,rfl,trivial⟩,trivial,⟨rfl,trivial⟩,⟨rfl,pR _⟩,⟨rfl,nP⟩,⟨?_,nP⟩,trivial⟩;show(gX ((xs.length:Nat)-1:Int) (ah t ((k+1:Nat):Int)).2.2.2.2 j).set j (IntKind.i64.wrap ((elt (dflt aK) (gX ((xs.length:Nat)-1:Int) (ah t ((k+1:Nat):Int)).2.2.2.2 j) (j:Nat)).1+((xs.length:Nat)-1:Int)),(elt (dflt aK) (gX ((xs.length:Nat)-1:Int) (ah t ((k+1:Nat):Int)).2.2.2.2 j) (j:Nat)).2)=gX ((xs.length:Nat)-1:Int) (ah t ((k+1:Nat):Int)).2.2.2.2 (j+1)
     rw[y9 hlt2,hat,hw]
    .show(ah t ((k+1:Nat):Int)).2.2.2.2.length-(j+1)<(ah t ((k+1:Nat):Int)).2.2.2.2.length-j;omega
   have hje:j=(ah t ((k+1:Nat):Int)).2.2.2.2.length:=by
    have q4:decide (((j:Nat):Int)<((gX ((xs.length:Nat)-1:Int) (ah t ((k+1:Nat):Int)).2.2.2.2 j).length:Nat))=false:=q3;rw[qg]at q4;have q5:(ah t ((k+1:Nat):Int)).2.2.2.2.length<=j:=by simpa using q4
    omega
   refine aI (by show(xs++oC lv ((xs.length:Nat)-1:Int) t k).length+1<=_;rw[qA,KO (by omega)];have:=hs.1;omega) ?_;refine aI (by kernel_rfl) ?_;refine aY (k+1) (by show k+1+1<=t.length;omega) ?_ ?_
   .refine hd [(20000,76)] rfl (aI (aI (dG (by have:=hs.1;omega)) rfl) (aI (aI rfl rfl) (aI (aI rfl rfl) trivial))) ⟨trivial,⟨rfl,trivial⟩,⟨?_,pR _⟩,trivial⟩;show(xs++oC lv ((xs.length:Nat)-1:Int) t k)++[((ah t ((k+1:Nat):Int)).1,(ah t ((k+1:Nat):Int)).2.1,(ah t ((k+1:Nat):Int)).2.2.1,(ah t ((k+1:Nat):Int)).2.2.2.1,gX ((xs.length:Nat)-1:Int) (ah t ((k+1:Nat):Int)).2.2.2.2 j)]=(xs++oC lv ((xs.length:Nat)-1:Int) t (k+1));rw[GQ hlt,hje,BA,qF]
    congr 2
    unfold bP jy;rw[show bX (ah t ((k+1:Nat):Int)).kind=false from hlev];rfl
   .show t.length-1-(k+1)<t.length-1-k;omega
 .have hke:k=t.length-1:=by
   have q2:decide (((k+1:Nat):Int)<(t.length:Nat))=false:=q1;have q3:(t.length:Nat)<=((k+1:Nat):Int):=by simpa using q2
   omega
  subst hke;refine aI (show(0:Int)<=0/\(0:Int)<(t.length:Nat) by omega) ?_;refine aI (show(0:Int)<=0/\(0:Int)<((ah t 0).2.2.2.2.length:Nat) by omega) ?_;have hp0:AQ (ay t (0,0)).1:=hpt 0 0;unfold AQ at hp0;have hw:IntKind.i64.wrap (((xs.length:Nat)-1:Int)+(ay t (0,0)).1)=((xs.length:Nat)-1:Int)+(ay t (0,0)).1:=qO _ (by omega);have hlk:=G9 (xs++oC lv ((xs.length:Nat)-1:Int) t (t.length-1)) us (((xs.length:Nat)-1:Int)+(ay t (0,0)).1,(ay t (0,0)).2) (y,0) htop hy.app;rw[<-hw]at hlk
  refine oZ (fA _ _) ?_;refine oZ (fA y 0) ?_;refine oY hlk ?_;refine fin [(10002,20000)] (aI rfl ?_);refine⟨trivial,⟨rfl,trivial⟩,⟨?_,pR _⟩,trivial⟩;show bD (xs++oC lv ((xs.length:Nat)-1:Int) t (t.length-1)) (IntKind.i64.wrap (((xs.length:Nat)-1:Int)+(ay t (0,0)).1),(ay t (0,0)).2) (y,0)=iG t lv xs y;rw[hw];rfl
theorem Dc:bH Tryz.prog 152=true:=by kernel_rfl
theorem TH(bk:iQ)(xs:aS)(a b:Int)(ha:0<=a/\a<(xs.length:Nat))(hb:0<=b/\b<(xs.length:Nat))(hs:∀i:Nat,dK (bG bk i))(hv:aR (ah xs (au xs a b).1) (ah xs (au xs a b).2)=7->0<=(ah xs (au xs a b).1).2.2.1):
  aJ Tryz.prog 152 [.rsl aZ bk,.rp aZ xs,.int .i64 a,.int .i64 b] (.tup [.int .i64 (dM bk (ah xs (au xs a b).1) (ah xs (au xs a b).2)).1,.int .i64 (dM bk (ah xs (au xs a b).1) (ah xs (au xs a b).2)).2]):=by
 obtain⟨h1,h2⟩:=Bg (xs:=xs) ha hb;refine aJ.intro (nt:=92) aG mixed Dc Tryz.func152 rfl rfl rfl rfl rfl ?_;refine oZ (Tm xs a b ha hb) ?_;refine aI h1 ?_;refine aI h2 ?_;refine oZ (Sr (ah xs (au xs a b).1) (ah xs (au xs a b).2)) ?_;refine aI (fun q1=> ?_) (fun q1=> ?_)
 .have e:dM bk (ah xs (au xs a b).1) (ah xs (au xs a b).2)=(0,11):=by have b:((aR (ah xs (au xs a b).1) (ah xs (au xs a b).2))==8)=true:=q1;simp only[dM,b,qG]
  rw[e];exact rfl
 have b8:((aR (ah xs (au xs a b).1) (ah xs (au xs a b).2))==8)=false:=q1;have fin0:∀z:Int,((aR (ah xs (au xs a b).1) (ah xs (au xs a b).2))==7)=false->jK bk (aR (ah xs (au xs a b).1) (ah xs (au xs a b).2)) (ah xs (au xs a b).1) (ah xs (au xs a b).2)=z->dM bk (ah xs (au xs a b).1) (ah xs (au xs a b).2)=((dD (aR (ah xs (au xs a b).1) (ah xs (au xs a b).2)) z).1,0):=fun z h e=>by simp only[dM,b8,h,qH,e]
 refine aI (fun q2=> ?_) (fun q2=> ?_)
 .refine aI (fun _=> ?_) (fun h=>by rw[show((aR (ah xs (au xs a b).1) (ah xs (au xs a b).2))==3)=true from q2]at h;cases h);refine oZ (zY _ _) ?_;have b3:((aR (ah xs (au xs a b).1) (ah xs (au xs a b).2))==3)=true:=q2;have c3:(aR (ah xs (au xs a b).1) (ah xs (au xs a b).2))=3:=by simpa using b3
  have e:=fin0 (IntKind.i64.wrap (((ah xs (au xs a b).2).2.2.2.2.length:Nat)-1)) (by rw[c3];rfl) (by simp only[jK,b3,qG]);rw[e];exact rfl
 have b3:((aR (ah xs (au xs a b).1) (ah xs (au xs a b).2))==3)=false:=q2;refine aI (fun q3=> ?_) (fun q3=> ?_)
 .refine oZ (zY _ _) ?_;have b4:((aR (ah xs (au xs a b).1) (ah xs (au xs a b).2))==4)=true:=q3;have c4:(aR (ah xs (au xs a b).1) (ah xs (au xs a b).2))=4:=by simpa using b4
  have e:=fin0 (IntKind.i64.wrap (((ah xs (au xs a b).2).2.2.2.2.length:Nat)-1)) (by rw[c4];rfl) (by simp only[jK,b3,b4,qG,qH]);rw[e];exact rfl
 have b4:((aR (ah xs (au xs a b).1) (ah xs (au xs a b).2))==4)=false:=q3;refine aI (fun q4=> ?_) (fun q4=> ?_)
 .refine oZ (Pf _) ?_;refine oZ (zY _ _) ?_;have b6:((aR (ah xs (au xs a b).1) (ah xs (au xs a b).2))==6)=true:=q4;have c6:(aR (ah xs (au xs a b).1) (ah xs (au xs a b).2))=6:=by simpa using b6
  have e:=fin0 (nW (ah xs (au xs a b).1)) (by rw[c6];rfl) (by simp only[jK,b3,b4,b6,qG,qH]);rw[e];exact rfl
 have b6:((aR (ah xs (au xs a b).1) (ah xs (au xs a b).2))==6)=false:=q4;refine aI (fun q5=> ?_) (fun q5=> ?_)
 .have b7:((aR (ah xs (au xs a b).1) (ah xs (au xs a b).2))==7)=true:=q5;have c7:(aR (ah xs (au xs a b).1) (ah xs (au xs a b).2))=7:=by simpa using b7
  have v0:=hv c7;have ek:bG bk (ah xs (au xs a b).1).2.2.1=bG bk ((ah xs (au xs a b).1).2.2.1.toNat:Nat):=by unfold bG;exact OW (by omega)
  have hsm:(bG bk (ah xs (au xs a b).1).2.2.1).length<=2000000:=by rw[ek];have:=(hs (ah xs (au xs a b).1).2.2.1.toNat).1;omega
  refine aI (fun q6=> ?_) (fun q6=> ?_)
  .have q7:decide ((bk.length:Int)<=(ah xs (au xs a b).1).2.2.1)=true:=q6;have e:dM bk (ah xs (au xs a b).1) (ah xs (au xs a b).2)=(0,3):=by simp only[dM,b8,b7,q7,qG,qH]
   rw[e];exact rfl
  have q7:decide ((bk.length:Int)<=(ah xs (au xs a b).1).2.2.1)=false:=q6;have hlt:(ah xs (au xs a b).1).2.2.1<(bk.length:Nat):=by simpa using q7
  refine aI ⟨v0,hlt⟩ ?_;refine aI ⟨v0,hlt⟩ ?_;refine oZ (Zbe (bG bk (ah xs (au xs a b).1).2.2.1) hsm) ?_;refine aI (by kernel_rfl) ?_;refine aI (fun q8=> ?_) (fun q8=> ?_)
  .have q9:decide (8<IntKind.i64.wrap (lX (bG bk (ah xs (au xs a b).1).2.2.1) (bG bk (ah xs (au xs a b).1).2.2.1).length+(ah xs (au xs a b).1).2.1))=true:=q8;have e:dM bk (ah xs (au xs a b).1) (ah xs (au xs a b).2)=(0,9):=by simp only[dM,b8,b7,q7,q9,qG,qH]
   rw[e];exact rfl
  have q9:decide (8<IntKind.i64.wrap (lX (bG bk (ah xs (au xs a b).1).2.2.1) (bG bk (ah xs (au xs a b).1).2.2.1).length+(ah xs (au xs a b).1).2.1))=false:=q8;refine oZ (zY _ _) ?_
  have e:dM bk (ah xs (au xs a b).1) (ah xs (au xs a b).2)=((dD 7 ((bG bk (ah xs (au xs a b).1).2.2.1).length:Nat)).1,0):=by
   have e7:jK bk 7 (ah xs (au xs a b).1) (ah xs (au xs a b).2)=((bG bk (ah xs (au xs a b).1).2.2.1).length:Nat):=rfl;simp only[dM,b8,b7,q7,q9,qG,qH,e7]
  rw[e,<-c7];exact rfl
 have b7:((aR (ah xs (au xs a b).1) (ah xs (au xs a b).2))==7)=false:=q5;refine oZ (zY _ _) ?_;have e:=fin0 0 b7 (by simp only[jK,b3,b4,b6,b7,qH]);rw[e];exact rfl
theorem Xy:bH Tryz.prog 125=true:=by kernel_rfl
section
variable (bk:iQ)(xs:aS)(us:bW)(a b:Int)(ha:0<=a/\a<(xs.length:Nat))(hb:0<=b/\b<(xs.length:Nat))(hs:∀i:Nat,dK (bG bk i))(hlx:xs.length<=800000)(hv:aR (ah xs (au xs a b).1) (ah xs (au xs a b).2)=7->0<=(ah xs (au xs a b).1).2.2.1)
include ha hb hs hlx hv
theorem Zj{g e:Int}(hge:dM bk (ah xs (au xs a b).1) (ah xs (au xs a b).2)=(g,e))(he:e≠0):aA Tryz.prog 125 [.rsl aZ bk,.ptr 10000 0,.int .i64 a,.int .i64 b] (tA xs us) (.int .i64 e) (tA xs us):=by
 have hg:=TH bk xs a b ha hb hs hv;rw[hge]at hg;refine aA.intro (nt:=134) aG mixed Xy Tryz.func125 rfl rfl rfl rfl rfl rfl ?_;refine oY (aA.vC aG [0,64,0,0] Dc hg rfl) ?_;refine aI (fun q1=> ?_) (fun q1=> ?_)
 .refine fin [] (aI ⟨rfl,rfl⟩ ?_);exact⟨trivial,⟨rfl,trivial⟩,⟨rfl,pR _⟩,trivial⟩
 .have q2:(e !=0)=false:=q1;simp at q2;exact absurd q2 he
theorem WL{g:Int}(hge:dM bk (ah xs (au xs a b).1) (ah xs (au xs a b).2)=(g,0))(hf:600<IntKind.i64.wrap ((fE xs xs.length:Nat)+g)):aA Tryz.prog 125 [.rsl aZ bk,.ptr 10000 0,.int .i64 a,.int .i64 b] (tA xs us) (.int .i64 4) (tA xs us):=by
 have hg:=TH bk xs a b ha hb hs hv;rw[hge]at hg;refine aA.intro (nt:=134) aG mixed Xy Tryz.func125 rfl rfl rfl rfl rfl rfl ?_;refine oY (aA.vC aG [0,64,0,0] Dc hg rfl) ?_;refine aI (fun q1=>by cases q1) (fun q1=> ?_);refine oY (aA.vC aG [64] Np (YD xs (by omega)) rfl) ?_;refine aI (fun q2=> ?_) (fun q2=> ?_)
 .refine fin [] (aI ⟨rfl,rfl⟩ ?_);exact⟨trivial,⟨rfl,trivial⟩,⟨rfl,pR _⟩,trivial⟩
 .have q3:decide (600<IntKind.i64.wrap ((fE xs xs.length:Nat)+g))=false:=q2;simp only[qP]at q3;exact absurd hf q3
theorem Za3{c x y g:Int}(hf:au xs a b=(x,y))(hc:aR (ah xs x) (ah xs y)=c)(hge:dM bk (ah xs x) (ah xs y)=(g,0))(hc7:1<=c/\c<=7)(hp:MB xs c x y)(hA:bO xs)(h0:aj xs (0,0))(h7:c=7->0<=(ah xs x).2.2.1/\(ah xs x).2.2.1<(bk.length:Nat))(hn:¬600<IntKind.i64.wrap ((fE xs xs.length:Nat)+g))
  (hE:c=7->∀us,aA Tryz.prog 160 [.rp aZ (bG bk (ah xs x).2.2.1),.ptr 10000 0,.int .i64 x,.int .i64 y] (tA xs us) (.tup []) (Ir 10002 (iG (bG bk (ah xs x).2.2.1) (ah xs x).2.1 xs y) us)):
  aA Tryz.prog 125 [.rsl aZ bk,.ptr 10000 0,.int .i64 a,.int .i64 b] (tA xs us) (.int .i64 0) (Ir 10002 (dX bk xs c x y) []):=by
 have hg:=TH bk xs a b ha hb hs hv;have hfst:=Tm xs a b ha hb;rw[hf]at hg hfst;rw[show(x,y).1=x from rfl,show(x,y).2=y from rfl,hge]at hg;rw[show(x,y).1=x from rfl,show(x,y).2=y from rfl]at hfst;obtain⟨⟨hx0,hy0,p12,p3,px,py,dy,p5,p6⟩,k5,k6⟩:=hp;refine aA.gK 10001 Xy ?_;refine aI (fun _ us' hpre hlen=> ?_) (fun h=>absurd rfl h)
 skip
 refine aA.intro (nt:=134) aG mixed Xy Tryz.func125 rfl rfl rfl rfl rfl rfl ?_;refine oY (aA.vC aG [0,64,0,0] Dc hg rfl) ?_;refine aI (fun q1=>by cases q1) (fun q1=> ?_);refine oY (aA.vC aG [64] Np (YD xs (by omega)) rfl) ?_;refine aI (fun q2=> ?_) (fun q2=> ?_)
 .have q3:decide (600<IntKind.i64.wrap ((fE xs xs.length:Nat)+g))=true:=q2;simp only[qQ]at q3;exact absurd q3 hn
 refine oY (aA.vC aG [64,0,0] Lh hfst rfl) ?_;refine aI hx0 ?_;refine aI hy0 ?_;have hce:=MK xs us' x y;rw[hc]at hce;refine oY hce ?_;refine aI (by kernel_rfl) ?_;refine aI (fun b1=> ?_) (fun b1=> ?_)
 .have c1:c=1:=by have b:(c==1)=true:=b1;simpa using b
  have n7:(c==7)=false:=by rw[c1];rfl
  refine aI (fun _=> ?_) (fun h=>by rw[show(c==1)=true from b1]at h;cases h);obtain⟨j1,j2,j3,j4⟩:=p12 (.inl c1);refine oZ (fA _ _) ?_;refine oZ (fA _ _) ?_;refine oY (Pp xs us' (x,1) (y,1) j1 j3 (hA _ j1) (hA _ j3)) ?_;have hA1:=hA.join j1 j3;refine oZ (fA _ _) ?_;refine oZ (fA _ _) ?_;refine oY (Pp (bg xs (x,1) (y,1)) us' (x,2) (y,2) j2.join j4.join (hA1 _ j2.join) (hA1 _ j4.join)) ?_;have hll:xs.length<=(bg (bg xs (x,1) (y,1)) (x,2) (y,2)).length:=by rw[uf,uf];exact Nat.le_refl _
  have hlx2:0<=x/\x<((bg (bg xs (x,1) (y,1)) (x,2) (y,2)).length:Nat):=by omega
  have hly:0<=y/\y<((bg (bg xs (x,1) (y,1)) (x,2) (y,2)).length:Nat):=by omega
  refine oY (kS (bg (bg xs (x,1) (y,1)) (x,2) (y,2)) us' x hlx2) ?_;refine aI (fun _=> ?_) (fun q7=>by have q8:(c !=7)=false:=q7;rw[c1]at q8;cases q8);refine oY (kS (bB (bg (bg xs (x,1) (y,1)) (x,2) (y,2)) x) [] y (by rw[iL];exact hly)) ?_;refine fin [(10002,10001)] (aI ⟨rfl,rfl⟩ ?_);refine⟨trivial,⟨rfl,trivial⟩,⟨?_,nP⟩,trivial⟩;show bB (bB (bg (bg xs (x,1) (y,1)) (x,2) (y,2)) x) y=dX bk xs c x y;simp only[dX,kr,b1,n7,qG,qH]
 refine aI (fun b2=> ?_) (fun b2=> ?_)
 .have c2:c=2:=by have b:(c==2)=true:=b2;simpa using b
  have n7:(c==7)=false:=by rw[c2];rfl
  obtain⟨j1,j2,j3,j4⟩:=p12 (.inr c2);refine oZ (fA _ _) ?_;refine oZ (fA _ _) ?_;refine oY (Pp xs us' (x,1) (y,1) j1 j3 (hA _ j1) (hA _ j3)) ?_;have hA1:=hA.join j1 j3;refine oZ (fA _ _) ?_;refine oZ (fA _ _) ?_;refine oY (Pp (bg xs (x,1) (y,1)) us' (x,2) (y,2) j2.join j4.join (hA1 _ j2.join) (hA1 _ j4.join)) ?_;have hll:xs.length<=(bg (bg xs (x,1) (y,1)) (x,2) (y,2)).length:=by rw[uf,uf];exact Nat.le_refl _
  have hlx2:0<=x/\x<((bg (bg xs (x,1) (y,1)) (x,2) (y,2)).length:Nat):=by omega
  have hly:0<=y/\y<((bg (bg xs (x,1) (y,1)) (x,2) (y,2)).length:Nat):=by omega
  refine oY (kS (bg (bg xs (x,1) (y,1)) (x,2) (y,2)) us' x hlx2) ?_;refine aI (fun _=> ?_) (fun q7=>by have q8:(c !=7)=false:=q7;rw[c2]at q8;cases q8);refine oY (kS (bB (bg (bg xs (x,1) (y,1)) (x,2) (y,2)) x) [] y (by rw[iL];exact hly)) ?_;refine fin [(10002,10001)] (aI ⟨rfl,rfl⟩ ?_);refine⟨trivial,⟨rfl,trivial⟩,⟨?_,nP⟩,trivial⟩;show bB (bB (bg (bg xs (x,1) (y,1)) (x,2) (y,2)) x) y=dX bk xs c x y;simp only[dX,kr,b1,b2,n7,qG,qH]
 refine aI (fun b3=> ?_) (fun b3=> ?_)
 .have c3:c=3:=by have b:(c==3)=true:=b3;simpa using b
  have n7:(c==7)=false:=by rw[c3];rfl
  obtain⟨j1,j2⟩:=p3 c3;refine oY (dupA xs us' x y hA h0 (by omega) j1 j2 hy0 py.2 dy py.1) ?_;have hll:xs.length<=(bK xs x y).length:=by exact F9 xs x y
  have hlx2:0<=x/\x<((bK xs x y).length:Nat):=by omega
  have hly:0<=y/\y<((bK xs x y).length:Nat):=by omega
  refine oY (kS (bK xs x y) us' x hlx2) ?_;refine aI (fun _=> ?_) (fun q7=>by have q8:(c !=7)=false:=q7;rw[c3]at q8;cases q8);refine oY (kS (bB (bK xs x y) x) [] y (by rw[iL];exact hly)) ?_;refine fin [(10002,72)] (aI ⟨rfl,rfl⟩ ?_);refine⟨trivial,⟨rfl,trivial⟩,⟨?_,nP⟩,trivial⟩;show bB (bB (bK xs x y) x) y=dX bk xs c x y;simp only[dX,kr,b1,b2,b3,n7,qG,qH]
 refine aI (fun b4=> ?_) (fun b4=> ?_)
 .have c4:c=4:=by have b:(c==4)=true:=b4;simpa using b
  have n7:(c==7)=false:=by rw[c4];rfl
  have hyk:∀i:Nat,i<((ah xs y).2.2.2.2.length-1)->aj xs (y,((i+1:Nat):Int)):=fun i hi=>⟨hy0.1,hy0.2,by omega,by show((i+1:Nat):Int)<((ah xs y).2.2.2.2.length:Nat);omega⟩
  refine aI hy0 ?_;refine aI (vZ hlen hy0.1 hy0.2) ?_;refine lp Nat (fun k=>[(13,.int .i64 ((k+1:Nat):Int)),(12,.int .i64 ((ah xs y).2.2.2.2.length:Nat))]) (fun k=>[.dL 10000 37 [.sl 20000],.row 20000 117 5 aD (sG y xs k) us']) (fun k=>((ah xs y).2.2.2.2.length-1)-k) (fun k=>k<=((ah xs y).2.2.2.2.length-1)) 0 (Nat.zero_le _) ?_ ?_
  .exact hd [(20000,10001)] rfl (aI (aI rfl rfl) (aI (aI rfl rfl) trivial)) ⟨trivial,⟨rfl,trivial⟩,⟨rfl,pR _⟩,trivial⟩
  intro k hk;refine aI (fun q4=> ?_) (fun q4=> ?_)
  .have hlt:k<((ah xs y).2.2.2.2.length-1):=by
    have q5:decide (((k+1:Nat):Int)<((ah xs y).2.2.2.2.length:Nat))=true:=q4;have q6:((k+1:Nat):Int)<((ah xs y).2.2.2.2.length:Nat):=by simpa using q5
    omega
   have hadd:=uQ (sG y xs k) us' 5 0 0 1 (by rw[mX];omega) (by omega);rw[mX]at hadd;refine oY hadd ?_;refine oZ (fA _ _) ?_;refine oZ (fA _ _) ?_;refine oY (moveA (sG y xs k++[bf 5 0 0 [] 1]) us' (y,((k+1:Nat):Int)) (((xs.length+k:Nat):Int),0) ((zS hA h0 k fun i hi=>hyk i (by omega)).add (sS h0 k) _ _ _ _ _) (sS (hyk k hlt) k).app (CY k)) ?_;refine aY (k+1) (by omega) ?_ ?_
   .exact hd [(20000,90)] rfl (aI (aI (dG (by omega)) rfl) (aI (aI rfl rfl) trivial)) ⟨trivial,⟨rfl,trivial⟩,⟨rfl,pR _⟩,trivial⟩
   .show((ah xs y).2.2.2.2.length-1)-(k+1)<((ah xs y).2.2.2.2.length-1)-k;omega
  have hge2:((ah xs y).2.2.2.2.length-1)<=k:=by
   have q5:decide (((k+1:Nat):Int)<((ah xs y).2.2.2.2.length:Nat))=false:=q4;have q6:((ah xs y).2.2.2.2.length:Nat)<=((k+1:Nat):Int):=by simpa using q5
   omega
  have hke:k=((ah xs y).2.2.2.2.length-1):=by omega
  subst hke;have hll:xs.length<=(iA xs y).length:=by unfold iA;rw[mX];omega
  have hlx2:0<=x/\x<((iA xs y).length:Nat):=by omega
  have hly:0<=y/\y<((iA xs y).length:Nat):=by omega
  refine oY (kS (iA xs y) us' x hlx2) ?_;refine aI (fun _=> ?_) (fun q7=>by have q8:(c !=7)=false:=q7;rw[c4]at q8;cases q8);refine oY (kS (bB (iA xs y) x) [] y (by rw[iL];exact hly)) ?_;refine fin [(10002,20000)] (aI ⟨rfl,rfl⟩ ?_);refine⟨trivial,⟨rfl,trivial⟩,⟨?_,nP⟩,trivial⟩;show bB (bB (iA xs y) x) y=dX bk xs c x y;simp only[dX,kr,b1,b2,b3,b4,n7,qG,qH]
 refine aI (fun b5=> ?_) (fun b5=> ?_)
 .have c5:c=5:=by have b:(c==5)=true:=b5;simpa using b
  have n7:(c==7)=false:=by rw[c5];rfl
  obtain⟨j1,j2,j3⟩:=p5 c5;refine oY (Zbq xs us' x y hA h0 (by omega) hx0 j1 (k5 c5) j2 j3 dy py.2) ?_;have hll:xs.length<=(bJ xs x y).length:=by exact Lr xs x y
  have hlx2:0<=x/\x<((bJ xs x y).length:Nat):=by omega
  have hly:0<=y/\y<((bJ xs x y).length:Nat):=by omega
  refine oY (kS (bJ xs x y) us' x hlx2) ?_;refine aI (fun _=> ?_) (fun q7=>by have q8:(c !=7)=false:=q7;rw[c5]at q8;cases q8);refine oY (kS (bB (bJ xs x y) x) [] y (by rw[iL];exact hly)) ?_;refine fin [(10002,103)] (aI ⟨rfl,rfl⟩ ?_);refine⟨trivial,⟨rfl,trivial⟩,⟨?_,nP⟩,trivial⟩;show bB (bB (bJ xs x y) x) y=dX bk xs c x y;simp only[dX,kr,b1,b2,b3,b4,b5,n7,qG,qH]
 refine aI (fun b6=> ?_) (fun b6=> ?_)
 .have c6:c=6:=by have b:(c==6)=true:=b6;simpa using b
  have n7:(c==7)=false:=by rw[c6];rfl
  obtain⟨j1,j2,j3⟩:=p6 c6;refine oY (WB xs us' x y hA h0 (by omega) hx0 j1 (k6 c6).1 (k6 c6).2 px.2 px.1 dy py.2) ?_;have hll:xs.length<=(eZ xs x y).length:=by exact MI xs x y
  have hlx2:0<=x/\x<((eZ xs x y).length:Nat):=by omega
  have hly:0<=y/\y<((eZ xs x y).length:Nat):=by omega
  refine oY (kS (eZ xs x y) us' x hlx2) ?_;refine aI (fun _=> ?_) (fun q7=>by have q8:(c !=7)=false:=q7;rw[c6]at q8;cases q8);refine oY (kS (bB (eZ xs x y) x) [] y (by rw[iL];exact hly)) ?_;refine fin [(10002,109)] (aI ⟨rfl,rfl⟩ ?_);refine⟨trivial,⟨rfl,trivial⟩,⟨?_,nP⟩,trivial⟩;show bB (bB (eZ xs x y) x) y=dX bk xs c x y;simp only[dX,kr,b1,b2,b3,b4,b5,b6,n7,qG,qH]
 refine aI (fun b7=> ?_) (fun b7=> ?_)
 .have c7:c=7:=by have b:(c==7)=true:=b7;simpa using b
  have n7:(c==7)=true:=b7;refine aI hx0 ?_;refine aI (h7 c7) ?_;refine oY (hE c7 us') ?_;have hll:xs.length<=(iG (bG bk (ah xs x).2.2.1) (ah xs x).2.1 xs y).length:=by unfold iG;rw[jd,qA];omega
  have hlx2:0<=x/\x<((iG (bG bk (ah xs x).2.2.1) (ah xs x).2.1 xs y).length:Nat):=by omega
  have hly:0<=y/\y<((iG (bG bk (ah xs x).2.2.1) (ah xs x).2.1 xs y).length:Nat):=by omega
  refine oY (kS (iG (bG bk (ah xs x).2.2.1) (ah xs x).2.1 xs y) us' x hlx2) ?_;refine aI (fun q7=>by have q8:(c !=7)=true:=q7;rw[c7]at q8;cases q8) (fun _=> ?_);refine fin [(10002,125)] (aI ⟨rfl,rfl⟩ ?_);refine⟨trivial,⟨rfl,trivial⟩,⟨?_,nP⟩,trivial⟩;show bB (iG (bG bk (ah xs x).2.2.1) (ah xs x).2.1 xs y) x=dX bk xs c x y;simp only[dX,kr,b1,b2,b3,b4,b5,b6,b7,n7,qG,qH]
 .exfalso;simp at b1 b2 b3 b4 b5 b6 b7;omega
end
section
variable (bk:iQ)(xs:aS)(us:bW)(pk:Int)(tr:List Int)(a b:Int)(ha:0<=a/\a<(xs.length:Nat))(hb:0<=b/\b<(xs.length:Nat))(hs:∀i:Nat,dK (bG bk i))(hlx:xs.length<=800000)(hv:aR (ah xs (au xs a b).1) (ah xs (au xs a b).2)=7->0<=(ah xs (au xs a b).1).2.2.1)
include ha hb hs hlx hv
end
end Go.Proofs.YtbdimbjclhmeoaaGreat
namespace Go.Proofs.YtbdimbjclhmeoaaGreat
open Go Go.RowKit Go.Proofs Go.Tr
theorem Lm:bH Tryz.prog 39=true:=by kernel_rfl
theorem Hz:bH Tryz.prog 40=true:=by kernel_rfl
theorem UM:bH Tryz.prog 95=true:=by kernel_rfl
theorem EC:bH Tryz.prog 67=true:=by kernel_rfl
def kH(xs:List ak)(k:Int):Bool:=bif gG k 0 ((xs.length:Int)-1)then(ah xs k).1 !=0 else false
theorem yu{xs:aS}{k:Int}(h:kH xs k=true):0<=k/\k<(xs.length:Nat):=by
 unfold kH at h;cases hb:gG k 0 ((xs.length:Int)-1)with
 |true=>have:=iU hb;omega
 |false=>rw[hb]at h;cases h
theorem Zai(xs:aS)(k:Int)(hl:xs.length<=1000000):aJ Tryz.prog 39 [.rp aZ xs,.int .i64 k] (.bool (kH xs k)):=by
 refine aJ.intro (nt:=24) aG mixed Lm Tryz.func39 rfl rfl rfl rfl rfl ?_;have hw:IntKind.i64.wrap ((xs.length:Int)-1)=(xs.length:Int)-1:=qO _ (by omega);have hq:aJ Tryz.prog 38 [.int .i64 k,.int .i64 0,.int .i64 (IntKind.i64.wrap ((xs.length:Int)-1))] (.bool (gG k 0 ((xs.length:Int)-1))):=by rw[hw];exact F5 k 0 _
 refine oZ hq ?_;refine aI (fun h=>by(have h1:gG k 0 ((xs.length:Int)-1)=true:=h);have:=iU h1;show 0<=k/\k<(xs.length:Nat);omega) ?_;exact rfl
def nV(xs:List ak)(a b:Int):Bool:=
 bif (bif decide (0<a)then decide (a<b)else false)then bT [(elt (dflt aK) (ah xs a).2.2.2.2 0).1,(elt (dflt aK) (ah xs a).2.2.2.2 0).2] [b,0]else false
theorem Wu(xs:aS)(a b:Int)(ha:0<=a/\a<(xs.length:Nat))(hp:0<(ah xs a).2.2.2.2.length):aJ Tryz.prog 40 [.rp aZ xs,.int .i64 a,.int .i64 b] (.bool (nV xs a b)):=by
 refine aJ.intro (nt:=29) aG mixed Hz Tryz.func40 rfl rfl rfl rfl rfl ?_;refine aI (fun _=>ha) ?_;refine aI (fun _=>⟨Int.le_refl 0,by show(0:Int)<((ah xs a).2.2.2.2.length:Nat);omega⟩) ?_;refine oZ (fun _=>fA b 0) ?_;refine aI (fun _=>⟨by kernel_rfl,rfl⟩) ?_;refine aI (by kernel_rfl) ?_;exact rfl
section
variable (bk:iQ)(xs:aS)(us:bW)(a b:Int)(ha:0<=a/\a<(xs.length:Nat))(hb:0<=b/\b<(xs.length:Nat))
include ha hb
theorem Yu{code:Int}(hc:code≠0)(hD:aA Tryz.prog 125 [.rsl aZ bk,.ptr 10000 0,.int .i64 a,.int .i64 b] (tA xs us) (.int .i64 code) (tA xs us)):aA Tryz.prog 95 [.rsl aZ bk,.ptr 10000 0,.int .i64 a,.int .i64 b] (tA xs us) (.tup [yI (0,0,0,0,0),.int .i64 code]) (tA xs us):=by
 refine aA.intro (nt:=59) aG mixed UM Tryz.func95 rfl rfl rfl rfl rfl rfl ?_;refine aI ha ?_;refine aI hb ?_;refine Or.inl (Or.inl (eI _ (eI _ (aI (MK xs us a b) (eI [] (aI rfl ?_))))));refine aI (by kernel_rfl) ?_;refine oY hD ?_;refine aI (fun q1=> ?_) (fun q1=> ?_)
 .refine fin [] (aI rfl ?_);exact⟨trivial,⟨rfl,trivial⟩,⟨rfl,pR _⟩,trivial⟩
 .exfalso;have q2:(code !=0)=false:=q1;simp at q2;exact hc q2
theorem Tf{ys:aS}(hl:xs.length<=1000000)(hly:ys.length<=1000000)(hD:aA Tryz.prog 125 [.rsl aZ bk,.ptr 10000 0,.int .i64 a,.int .i64 b] (tA xs us) (.int .i64 0) (Ir 10002 ys [])):aA Tryz.prog 95 [.rsl aZ bk,.ptr 10000 0,.int .i64 a,.int .i64 b] (tA xs us)
  (bif decide (3000<(ys.length:Int))then .tup [yI (0,0,0,0,0),.int .i64 4]else .tup [yI (a,b,aR (ah xs a) (ah xs b),(xs.length:Int),(ys.length:Int)-(xs.length:Int)),.int .i64 0]) (Ir 10002 ys []):=by
 refine aA.intro (nt:=59) aG mixed UM Tryz.func95 rfl rfl rfl rfl rfl rfl ?_;refine aI ha ?_;refine aI hb ?_;refine Or.inl (Or.inl (eI _ (eI _ (aI (MK xs us a b) (eI [] (aI rfl ?_))))));refine aI (by kernel_rfl) ?_;refine oY hD ?_;refine aI (fun q1=>by cases q1) (fun q1=> ?_);refine aI (by kernel_rfl) ?_;refine aI (fun q1=> ?_) (fun q1=> ?_)
 .have q2:decide (3000<(ys.length:Int))=true:=q1;rw[q2];refine fin [(10002,37)] (aI rfl ?_);exact⟨trivial,⟨rfl,trivial⟩,⟨rfl,pR _⟩,trivial⟩
 .have q2:decide (3000<(ys.length:Int))=false:=q1;rw[q2];have hw:IntKind.i64.wrap ((ys.length:Int)-(xs.length:Int))=(ys.length:Int)-(xs.length:Int):=qO _ (by omega);refine fin [(10002,37)] (aI (congrArg (fun z:Int=>(SV.tup [yI (a,b,aR (ah xs a) (ah xs b),(xs.length:Int),z),.int .i64 0])) hw) ?_);exact⟨trivial,⟨rfl,trivial⟩,⟨rfl,pR _⟩,trivial⟩
end
end Go.Proofs.YtbdimbjclhmeoaaGreat
namespace Go.Proofs.YtbdimbjclhmeoaaGreat
open Go Go.RowKit Go.Proofs Go.Tr
section
variable (bk:iQ)(xs:aS)(us:bW)(e:aB)(hl:xs.length<=1000000)
theorem sV(k:Int)(hl:xs.length<=1000000):aA Tryz.prog 39 [.ptr 10000 0,.int .i64 k] (tA xs us) (.bool (kH xs k)) (tA xs us):=aA.vC aG [64,0] Lm (Zai xs k hl) rfl
include hl
theorem Zbv(h:(kH xs e.1&&kH xs e.2.1)=false):aA Tryz.prog 67 [.rsl aZ bk,.ptr 10000 0,yI e] (tA xs us) (.int .i64 3) (tA xs us):=by
 refine aA.intro (nt:=44) aG mixed EC Tryz.func67 rfl rfl rfl rfl rfl rfl ?_;refine oY (sV xs us e.1 hl) ?_;cases ha:kH xs e.1 with
 |false=>
  refine Or.inr (aI (fun g=>by cases g) (fun g=> ?_));refine eI (.bool false) ?_;refine aI (fun q=> ?_) (fun q=>by cases q);refine fin [] (aI ⟨rfl,rfl⟩ ?_);exact⟨trivial,⟨rfl,trivial⟩,⟨rfl,pR _⟩,trivial⟩
 |true=>
  have hb:kH xs e.2.1=false:=by rw[ha]at h;simpa using h
  refine Or.inr (aI (fun g=> ?_) (fun g=>by cases g));refine eI _ (eI _ (aI (sV xs us e.2.1 hl) ?_));rw[hb];refine aI (fun q=> ?_) (fun q=>by cases q);refine fin [] (aI ⟨rfl,rfl⟩ ?_);exact⟨trivial,⟨rfl,trivial⟩,⟨rfl,pR _⟩,trivial⟩
variable (ha:kH xs e.1=true)(hb:kH xs e.2.1=true)(hp:0<(ah xs e.1).2.2.2.2.length)
theorem CO(a b:Int)(ha:0<=a/\a<(xs.length:Nat))(hp:0<(ah xs a).2.2.2.2.length):aA Tryz.prog 40 [.ptr 10000 0,.int .i64 a,.int .i64 b] (tA xs us) (.bool (nV xs a b)) (tA xs us):=aA.vC aG [64,0,0] Hz (Wu xs a b ha hp) rfl
include ha hb hp
theorem Zbw(h:nV xs e.1 e.2.1=false):aA Tryz.prog 67 [.rsl aZ bk,.ptr 10000 0,yI e] (tA xs us) (.int .i64 5) (tA xs us):=by
 refine aA.intro (nt:=44) aG mixed EC Tryz.func67 rfl rfl rfl rfl rfl rfl ?_;refine oY (sV xs us e.1 hl) ?_;rw[ha];refine Or.inr (aI (fun g=> ?_) (fun g=>by cases g));refine eI _ (eI _ (aI (sV xs us e.2.1 hl) ?_));rw[hb];refine aI (fun q=>by cases q) (fun q=> ?_);refine oY (CO xs us hl e.1 e.2.1 (yu ha) hp) ?_;rw[h];refine aI (fun q=> ?_) (fun q=>by cases q);refine fin [] (aI ⟨rfl,rfl⟩ ?_);exact⟨trivial,⟨rfl,trivial⟩,⟨rfl,pR _⟩,trivial⟩
variable (h:nV xs e.1 e.2.1=true)
include h
theorem XF{code:Int}(hc:code≠0)(hP:aA Tryz.prog 95 [.rsl aZ bk,.ptr 10000 0,.int .i64 e.1,.int .i64 e.2.1] (tA xs us) (.tup [yI (0,0,0,0,0),.int .i64 code]) (tA xs us)):aA Tryz.prog 67 [.rsl aZ bk,.ptr 10000 0,yI e] (tA xs us) (.int .i64 code) (tA xs us):=by
 refine aA.intro (nt:=44) aG mixed EC Tryz.func67 rfl rfl rfl rfl rfl rfl ?_;refine oY (sV xs us e.1 hl) ?_;rw[ha];refine Or.inr (aI (fun g=> ?_) (fun g=>by cases g));refine eI _ (eI _ (aI (sV xs us e.2.1 hl) ?_));rw[hb];refine aI (fun q=>by cases q) (fun q=> ?_);refine oY (CO xs us hl e.1 e.2.1 (yu ha) hp) ?_;rw[h];refine aI (fun q=>by cases q) (fun q=> ?_);refine oY hP ?_;refine aI (fun q1=> ?_) (fun q1=> ?_)
 .refine fin [] (aI ⟨rfl,rfl⟩ ?_);exact⟨trivial,⟨rfl,trivial⟩,⟨rfl,pR _⟩,trivial⟩
 .exfalso;have q2:(code !=0)=false:=q1;simp at q2;exact hc q2
theorem Ve{ys:aS}{code:Int}(hc:code≠0)(hP:aA Tryz.prog 95 [.rsl aZ bk,.ptr 10000 0,.int .i64 e.1,.int .i64 e.2.1] (tA xs us) (.tup [yI (0,0,0,0,0),.int .i64 code]) (Ir 10002 ys [])):aA Tryz.prog 67 [.rsl aZ bk,.ptr 10000 0,yI e] (tA xs us) (.int .i64 code) (Ir 10002 ys []):=by
 refine aA.intro (nt:=44) aG mixed EC Tryz.func67 rfl rfl rfl rfl rfl rfl ?_;refine oY (sV xs us e.1 hl) ?_;rw[ha];refine Or.inr (aI (fun g=> ?_) (fun g=>by cases g));refine eI _ (eI _ (aI (sV xs us e.2.1 hl) ?_));rw[hb];refine aI (fun q=>by cases q) (fun q=> ?_);refine oY (CO xs us hl e.1 e.2.1 (yu ha) hp) ?_;rw[h];refine aI (fun q=>by cases q) (fun q=> ?_);refine oY hP ?_;refine aI (fun q1=> ?_) (fun q1=> ?_)
 .refine fin [(10002,35)] (aI ⟨rfl,rfl⟩ ?_);exact⟨trivial,⟨rfl,trivial⟩,⟨rfl,pR _⟩,trivial⟩
 .exfalso;have q2:(code !=0)=false:=q1;simp at q2;exact hc q2
theorem ZO{ys:aS}{f:aB}(hP:aA Tryz.prog 95 [.rsl aZ bk,.ptr 10000 0,.int .i64 e.1,.int .i64 e.2.1] (tA xs us) (.tup [yI f,.int .i64 0]) (Ir 10002 ys [])):aA Tryz.prog 67 [.rsl aZ bk,.ptr 10000 0,yI e] (tA xs us) (.int .i64 (bif !bT (jI f) (jI e)then 14 else 0)) (Ir 10002 ys []):=by
 refine aA.intro (nt:=44) aG mixed EC Tryz.func67 rfl rfl rfl rfl rfl rfl ?_;refine oY (sV xs us e.1 hl) ?_;rw[ha];refine Or.inr (aI (fun g=> ?_) (fun g=>by cases g));refine eI _ (eI _ (aI (sV xs us e.2.1 hl) ?_));rw[hb];refine aI (fun q=>by cases q) (fun q=> ?_);refine oY (CO xs us hl e.1 e.2.1 (yu ha) hp) ?_;rw[h];refine aI (fun q=>by cases q) (fun q=> ?_);refine oY hP ?_;refine aI (fun q1=>by cases q1) (fun q1=> ?_);refine aI ⟨by kernel_rfl,rfl⟩ ?_;refine aI (fun q2=> ?_) (fun q2=> ?_)
 .have q3:(!bT (jI f) (jI e))=true:=q2;rw[q3];refine fin [(10002,35)] (aI ⟨rfl,rfl⟩ ?_);exact⟨trivial,⟨rfl,trivial⟩,⟨rfl,pR _⟩,trivial⟩
 .have q3:(!bT (jI f) (jI e))=false:=q2;rw[q3];refine fin [(10002,35)] (aI ⟨rfl,rfl⟩ ?_);exact⟨trivial,⟨rfl,trivial⟩,⟨rfl,pR _⟩,trivial⟩
end
end Go.Proofs.YtbdimbjclhmeoaaGreat
