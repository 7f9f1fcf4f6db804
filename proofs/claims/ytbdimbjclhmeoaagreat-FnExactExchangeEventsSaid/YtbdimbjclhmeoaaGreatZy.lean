
/- Two events exchanged: both sides. -/
import Derived.Test.YtbdimbjclhmeoaaGreatShort
import Derived.Test.YtbdimbjclhmeoaaGreatZt
import Derived.Test.YtbdimbjclhmeoaaGreatRg
import Derived.Test.YtbdimbjclhmeoaaGreatUd
set_option maxHeartbeats 4000000
set_option maxRecDepth 100000
set_option linter.unusedSimpArgs false
set_option linter.unusedVariables false
set_option linter.unusedSectionVars false
namespace Go.Proofs.YtbdimbjclhmeoaaGreat
open Go Go.RowKit Go.Proofs Go.Tr
theorem Kg:bI Tryz.prog 81=true:=by kernel_rfl
abbrev FD(e:aB):List SV:=[.int .i64 e.1,.int .i64 e.2.1,.int .i64 e.2.2.1,.int .i64 e.2.2.2.1,.int .i64 e.2.2.2.2]
abbrev Zaw(a b:aB):List Tok:=[.dF 10000 67 (FD a),.dF 10001 67 (FD b)]
def Pj(n:Int):Prop:= -1000000≤n∧n≤1000000
theorem K9{n:Int}(h: -9000000≤n∧n≤9000000):IntKind.i64.wrap n=n:=qO _ (by omega)
theorem WY(a b:aB)(n:Int)(ha:Pj a.2.2.2.1∧Pj a.2.2.2.2)(hb:Pj b.2.2.2.1∧Pj b.2.2.2.2)(hn:Pj n)(hab:b.2.2.2.1=a.2.2.2.1+a.2.2.2.2):
  aA Tryz.prog 80 [.int .i64 n,.ptr 10000 0,.ptr 10001 0] (Zaw a b) (.int .i64 (Mh a.2.2.2.1 a.2.2.2.2 b.2.2.2.2 n)) (Zaw a b):=by
 obtain⟨⟨a1,a2⟩,a3,a4⟩:=ha;obtain⟨⟨b1,b2⟩,b3,b4⟩:=hb;obtain⟨n1,n2⟩:=hn;unfold Mh;refine aA.intro (nt:=33) aG mixed (by kernel_rfl) Tryz.func80 rfl rfl rfl rfl rfl rfl ?_;refine aI (fun q=> ?_) (fun q=> ?_)
 ·have q2:decide (n<a.2.2.2.1)=true:=q;simp only[qQ]at q2;rw[if_pos q2];refine fin [] (aI ⟨rfl,rfl⟩ ?_);exact⟨trivial,⟨⟨rfl,rfl⟩,⟨rfl,rfl⟩,⟨rfl,rfl⟩,⟨rfl,rfl⟩,⟨rfl,rfl⟩,trivial⟩,trivial,⟨⟨rfl,rfl⟩,⟨rfl,rfl⟩,⟨rfl,rfl⟩,⟨rfl,rfl⟩,⟨rfl,rfl⟩,trivial⟩,trivial⟩
 have q2:decide (n<a.2.2.2.1)=false:=q;simp only[qP]at q2;rw[if_neg q2];refine aI (fun q3=> ?_) (fun q3=> ?_)
 ·have q4:decide (n<b.2.2.2.1)=true:=q3;simp only[qQ]at q4;rw[if_pos (by omega)];refine fin [] (aI ⟨K9 (by omega),rfl⟩ ?_);exact⟨trivial,⟨⟨rfl,rfl⟩,⟨rfl,rfl⟩,⟨rfl,rfl⟩,⟨rfl,rfl⟩,⟨rfl,rfl⟩,trivial⟩,trivial,⟨⟨rfl,rfl⟩,⟨rfl,rfl⟩,⟨rfl,rfl⟩,⟨rfl,rfl⟩,⟨rfl,rfl⟩,trivial⟩,trivial⟩
 have q4:decide (n<b.2.2.2.1)=false:=q3;simp only[qP]at q4;rw[if_neg (by omega)];refine aI (fun q5=> ?_) (fun q5=> ?_)
 ·have q6:decide (n<IntKind.i64.wrap (b.2.2.2.1+b.2.2.2.2))=true:=q5;rw[K9 (by omega)]at q6;simp only[qQ]at q6;rw[if_pos (by omega)];refine fin [] (aI ⟨K9 (by omega),rfl⟩ ?_);exact⟨trivial,⟨⟨rfl,rfl⟩,⟨rfl,rfl⟩,⟨rfl,rfl⟩,⟨rfl,rfl⟩,⟨rfl,rfl⟩,trivial⟩,trivial,⟨⟨rfl,rfl⟩,⟨rfl,rfl⟩,⟨rfl,rfl⟩,⟨rfl,rfl⟩,⟨rfl,rfl⟩,trivial⟩,trivial⟩
 ·have q6:decide (n<IntKind.i64.wrap (b.2.2.2.1+b.2.2.2.2))=false:=q5;rw[K9 (by omega)]at q6;simp only[qP]at q6;rw[if_neg (by omega)];refine fin [] (aI ⟨rfl,rfl⟩ ?_);exact⟨trivial,⟨⟨rfl,rfl⟩,⟨rfl,rfl⟩,⟨rfl,rfl⟩,⟨rfl,rfl⟩,⟨rfl,rfl⟩,trivial⟩,trivial,⟨⟨rfl,rfl⟩,⟨rfl,rfl⟩,⟨rfl,rfl⟩,⟨rfl,rfl⟩,⟨rfl,rfl⟩,trivial⟩,trivial⟩
theorem ZQ(f c d n:Int)(hf:Pj f)(hc:Pj c∧0≤c)(hd:Pj d∧0≤d)(hn:Pj n):aJ Tryz.prog 69 [.int .i64 n,.int .i64 f,.int .i64 c,.int .i64 d] (.int .i64 (Mh f c d n)):=by
 obtain⟨f1,f2⟩:=hf;obtain⟨⟨c1,c2⟩,c3⟩:=hc;obtain⟨⟨d1,d2⟩,d3⟩:=hd;obtain⟨n1,n2⟩:=hn;unfold Mh;refine aJ.intro (nt:=35) aG mixed (by kernel_rfl) Tryz.func69 rfl rfl rfl rfl rfl ?_;refine aI (fun q=> ?_) (fun q=> ?_)
 ·have q2:(bif decide (n<f)then true else decide (IntKind.i64.wrap (IntKind.i64.wrap (f+c)+d)≤n))=true:=q;rw[K9 (n:=f+c) (by omega),K9 (by omega)]at q2
  have e:n=(if n<f then n else if n<f+c then n+d else if n<f+c+d then n-c else n):=by
   by_cases h:n<f
   ·rw[if_pos h]
   ·rw[decide_eq_false h]at q2;simp only[qH,qQ]at q2;rw[if_neg h,if_neg (by omega),if_neg (by omega)]
  exact⟨e,rfl⟩
 ·have q2:(bif decide (n<f)then true else decide (IntKind.i64.wrap (IntKind.i64.wrap (f+c)+d)≤n))=false:=q;rw[K9 (n:=f+c) (by omega),K9 (by omega)]at q2;have h:¬n<f:=fun h=>by rw[decide_eq_true h]at q2;cases q2
  rw[decide_eq_false h]at q2;simp only[qH,qP]at q2;rw[if_neg h];refine aI (fun q3=> ?_) (fun q3=> ?_)
  ·have q4:decide (n<IntKind.i64.wrap (f+c))=true:=q3;rw[K9 (by omega)]at q4;simp only[qQ]at q4;rw[if_pos q4];exact⟨K9 (by omega),rfl⟩
  ·have q4:decide (n<IntKind.i64.wrap (f+c))=false:=q3;rw[K9 (by omega)]at q4;simp only[qP]at q4;rw[if_neg q4,if_pos (by omega)];exact⟨K9 (by omega),rfl⟩
theorem XY(xs:List aB)(hx:xs.length≤1048576):aA Tryz.prog 81 [.rsl aP xs] [] (.sl 10000) [.row 10000 67 5 aP xs []]:=by
 refine aA.Yv (fun he c=> ?_) ?_
 ·subst he;refine aA.intro (nt:=8) aG mixed Kg Tryz.func81 rfl rfl rfl rfl rfl rfl ?_;refine aI (fun h1=> ?_) (fun h1=>by cases h1);refine VE [⟨2,30000,67,5,aP⟩] [(10000,30000)] (aI rfl ?_);exact⟨⟨rfl,nP⟩,trivial⟩
 ·refine aA.intro (nt:=8) aG mixed Kg Tryz.func81 rfl rfl rfl rfl rfl rfl ?_;refine aI (fun h1=>by cases h1) (fun h1=> ?_);refine aI (by show 0+xs.length≤_;omega) ?_;refine fin [(10000,7)] (aI rfl ?_);exact⟨⟨rfl,nP⟩,trivial⟩
structure XD(es:List aB):Prop where
 len:es.length≤300
 f:∀e∈es,Pj e.2.2.2.1∧(Pj e.2.2.2.2∧0≤e.2.2.2.2)
 ab:∀e∈es,Pj e.1∧Pj e.2.1
theorem su{es:List aB}{k:Nat}(h:k<es.length):fO es k∈es:=eltE h
theorem Xt(es:List aB)(k:Nat)(h:k+1<es.length)(hs:XD es):aA Tryz.prog 41 [.rsl aP es,.int .i64 (k:Nat)] [] (.sl 10000) [.row 10000 67 5 aP (lU es k) []]:=by
 have hl:=hs.len;have w1:IntKind.i64.wrap (((k:Nat):Int)+1)=((k+1:Nat):Int):=dH (by omega);have w2:IntKind.i64.wrap (((k:Nat):Int)+2)=((k+2:Nat):Int):=by rw[qO _ (by omega)];omega
 have e1:elt (dflt aP) es (IntKind.i64.wrap (((k:Nat):Int)+1))=fO es (k+1):=by rw[w1]
 have m0:=hs.f _ (su (show k<es.length by omega));have m1:=hs.f _ (su h);refine aA.intro (nt:=96) aG mixed (by kernel_rfl) Tryz.func41 rfl rfl rfl rfl rfl rfl ?_;refine aI (show 0≤((k:Nat):Int)∧((k:Nat):Int)<(es.length:Nat) by omega) ?_;refine aI (show 0≤IntKind.i64.wrap (((k:Nat):Int)+1)∧IntKind.i64.wrap (((k:Nat):Int)+1)<(es.length:Nat) by rw[w1];omega) ?_;refine aI (show 0≤((k:Nat):Int)∧((k:Nat):Int)≤(es.length:Nat) by omega) ?_;refine aI (by show 0+(List.take k es).length≤1073741824;rw[List.length_take];omega) ?_
 refine aI (by show([]++List.take k es).length+2≤1073741824;rw[List.nil_append,List.length_take];omega) ?_;refine lp Nat (fun i=>[(9,.int .i64 (i:Nat)),(8,.sl 20000)]) (fun i=>[.dF 5 67 (FD (fO es k)),.dF 6 67 (FD (fO es (k+1))),.row 20000 67 5 aP ((lU es k).take i) []]) (fun i=>es.length-i) (fun i=>k+2≤i∧i≤es.length) (k+2) ⟨Nat.le_refl _,h⟩ ?_ ?_
 ·refine hd [(20000,54)] rfl (aI (aI w2 rfl) (aI rfl trivial)) ⟨trivial,⟨⟨rfl,rfl⟩,⟨rfl,rfl⟩,⟨rfl,rfl⟩,⟨rfl,rfl⟩,⟨rfl,rfl⟩,trivial⟩,trivial,⟨⟨by rw[e1],rfl⟩,⟨by rw[e1],rfl⟩,⟨by rw[e1],rfl⟩,⟨by rw[e1],rfl⟩,⟨by rw[e1],rfl⟩,trivial⟩,⟨?_,nP⟩,trivial⟩
  show([]++List.take k es)++[((elt (dflt aP) es (IntKind.i64.wrap (((k:Nat):Int)+1))).1,(elt (dflt aP) es (IntKind.i64.wrap (((k:Nat):Int)+1))).2.1,(elt (dflt aP) es (IntKind.i64.wrap (((k:Nat):Int)+1))).2.2.1,(fO es k).2.2.2.1,(elt (dflt aP) es (IntKind.i64.wrap (((k:Nat):Int)+1))).2.2.2.2),
   ((fO es k).1,(fO es k).2.1,(fO es k).2.2.1,IntKind.i64.wrap ((fO es k).2.2.2.1+(elt (dflt aP) es (IntKind.i64.wrap (((k:Nat):Int)+1))).2.2.2.2),(fO es k).2.2.2.2)]=(lU es k).take (k+2)
  obtain⟨⟨f1,f2⟩,⟨f3,f4⟩,f5⟩:=m0;obtain⟨⟨g1,g2⟩,⟨g3,g4⟩,g5⟩:=m1;have hlk:(es.take k).length=k:=by rw[List.length_take];omega
  rw[e1,K9 (by omega),List.nil_append];unfold lU;rw[List.take_append,hlk,show k+2-k=2 by omega,List.take_take,show min (k+2) k=k by omega];rfl
 rintro i ⟨hi,hi2⟩;refine aI (fun q1=> ?_) (fun q1=> ?_)
 ·have hlt:i<es.length:=by
   have q2:decide (((i:Nat):Int)<(es.length:Nat))=true:=q1;simp only[qQ]at q2;omega
  have mi:=hs.ab _ (su hlt);refine aI (show 0≤((i:Nat):Int)∧((i:Nat):Int)<(es.length:Nat) by omega) ?_;refine Or.inl (eI _ (aI (ZQ (fO es k).2.2.2.1 (fO es k).2.2.2.2 (fO es (k+1)).2.2.2.2 (fO es i).1 m0.1 m0.2 m1.2 mi.1) ?_));refine Or.inl (eI _ (aI (ZQ (fO es k).2.2.2.1 (fO es k).2.2.2.2 (fO es (k+1)).2.2.2.2 (fO es i).2.1 m0.1 m0.2 m1.2 mi.2) ?_));refine Or.inl (eI _ (aI (minQ _ _) ?_));refine Or.inl (eI _ (aI (maxQ _ _) ?_));refine aI (by show(List.take i (lU es k)).length+1≤1073741824;rw[List.length_take,rM h];omega) ?_;refine bF (i+1) ⟨by omega,hlt⟩ ?_ ?_
  ·refine hd [(20000,94)] rfl (aI (aI (dH (by omega)) rfl) (aI rfl trivial)) ⟨trivial,⟨⟨rfl,rfl⟩,⟨rfl,rfl⟩,⟨rfl,rfl⟩,⟨rfl,rfl⟩,⟨rfl,rfl⟩,trivial⟩,trivial,⟨⟨rfl,rfl⟩,⟨rfl,rfl⟩,⟨rfl,rfl⟩,⟨rfl,rfl⟩,⟨rfl,rfl⟩,trivial⟩,⟨?_,nP⟩,trivial⟩;show List.take i (lU es k)++[SC es k (fO es i)]=List.take (i+1) (lU es k);rw[List.take_add_one,K3 h hi hlt];rfl
  ·show es.length-(i+1)<es.length-i;omega
 ·have hge:i=es.length:=by
   have q2:decide (((i:Nat):Int)<(es.length:Nat))=false:=q1;simp only[qP]at q2;omega
  subst hge;refine fin [(10000,20000)] (aI rfl ?_);refine⟨⟨?_,nP⟩,trivial⟩;exact qN (by rw[rM h];exact Nat.le_refl _)
theorem WZ(es:List aB)(k:Nat)(h:k+1<es.length)(hs:XD es)(hab:(fO es (k+1)).2.2.2.1=(fO es k).2.2.2.1+(fO es k).2.2.2.2):aA Tryz.prog 48 [.rsl aP es,.int .i64 (k:Nat)] [] (.sl 10000) [.row 10000 67 5 aP (lU es k) []]:=by
 have hl:=hs.len;have w1:IntKind.i64.wrap (((k:Nat):Int)+1)=((k+1:Nat):Int):=dH (by omega);have w2:IntKind.i64.wrap (((k:Nat):Int)+2)=((k+2:Nat):Int):=by rw[qO _ (by omega)];omega
 have e1:elt (dflt aP) es (IntKind.i64.wrap (((k:Nat):Int)+1))=fO es (k+1):=by rw[w1]
 have m0:=hs.f _ (su (show k<es.length by omega));have m1:=hs.f _ (su h);refine aA.intro (nt:=86) aG mixed (by kernel_rfl) Tryz.func48 rfl rfl rfl rfl rfl rfl ?_;refine aI (show 0≤((k:Nat):Int)∧((k:Nat):Int)<(es.length:Nat) by omega) ?_;refine aI (show 0≤IntKind.i64.wrap (((k:Nat):Int)+1)∧IntKind.i64.wrap (((k:Nat):Int)+1)<(es.length:Nat) by rw[w1];omega) ?_;refine aI (by kernel_rfl) ?_;refine Or.inr (eI _ (eI _ (aI (XY es (by omega)) ?_)));refine aI (show 0≤((k:Nat):Int)∧((k:Nat):Int)<(es.length:Nat) by omega) ?_;refine aI (by rw[List.length_set,w1];omega) ?_
 refine aI (by kernel_rfl) ?_;refine aI (by rw[List.length_set,List.length_set];omega) ?_;refine aI (by rw[List.length_set,List.length_set,List.length_set,w1];omega) ?_;refine aI (by kernel_rfl) ?_;refine lp Nat (fun i=>[(9,.int .i64 (i:Nat)),(8,.sl 20000)]) (fun i=>[.dF 5 67 (FD (fO es k)),.dF 6 67 (FD (fO es (k+1))),.row 20000 67 5 aP (FE es k i) []]) (fun i=>es.length-i) (fun i=>k+2≤i∧i≤es.length) (k+2) ⟨Nat.le_refl _,h⟩ ?_ ?_
 ·refine hd [(20000,23)] rfl (aI (aI w2 rfl) (aI rfl trivial)) ⟨trivial,⟨⟨rfl,rfl⟩,⟨rfl,rfl⟩,⟨rfl,rfl⟩,⟨rfl,rfl⟩,⟨rfl,rfl⟩,trivial⟩,trivial,⟨⟨by rw[e1],rfl⟩,⟨by rw[e1],rfl⟩,⟨by rw[e1],rfl⟩,⟨by rw[e1],rfl⟩,⟨by rw[e1],rfl⟩,trivial⟩,⟨?_,nP⟩,trivial⟩;refine Eq.trans (VB (f:=(fO es k).2.2.2.1) (g:=IntKind.i64.wrap ((fO es k).2.2.2.1+(elt (dflt aP) es (IntKind.i64.wrap (((k:Nat):Int)+1))).2.2.2.2)) h w1) ?_;obtain⟨⟨f1,f2⟩,⟨f3,f4⟩,f5⟩:=m0;obtain⟨⟨g1,g2⟩,⟨g3,g4⟩,g5⟩:=m1;rw[e1,K9 (by omega)];exact PL h
 rintro i ⟨hi,hi2⟩;have hpl:=VA h hi2;refine aI (fun q1=> ?_) (fun q1=> ?_)
 ·have hlt:i<es.length:=by
   have q2:decide (((i:Nat):Int)<((FE es k i).length:Nat))=true:=q1;rw[hpl]at q2;simp only[qQ]at q2;omega
  have mi:=hs.ab _ (su hlt);have ei:elt (dflt aP) (FE es k i) ((i:Nat):Int)=fO es i:=Ya h hlt;have hbd:0≤((i:Nat):Int)∧((i:Nat):Int)<((FE es k i).length:Nat):=by rw[hpl];omega
  refine aI hbd ?_;refine Or.inl (Or.inl (eI _ (eI _ (aI (WY (fO es k) (fO es (k+1)) (elt (dflt aP) (FE es k i) ((i:Nat):Int)).1 ⟨m0.1,m0.2.1⟩ ⟨m1.1,m1.2.1⟩ (by rw[ei];exact mi.1) hab) (eI [] (aI rfl ?_))))));refine aI hbd ?_;refine Or.inl (Or.inl (eI _ (eI _ (aI (WY (fO es k) (fO es (k+1)) (elt (dflt aP) (FE es k i) ((i:Nat):Int)).2.1 ⟨m0.1,m0.2.1⟩ ⟨m1.1,m1.2.1⟩ (by rw[ei];exact mi.2) hab) (eI [] (aI rfl ?_))))));refine aI (by kernel_rfl) ?_;refine aI hbd ?_;refine aI (by rw[List.length_set];exact hbd) ?_;refine bF (i+1) ⟨by omega,hlt⟩ ?_ ?_
  ·refine hd [] rfl (aI (aI (dH (by omega)) rfl) (aI rfl trivial)) ⟨trivial,⟨⟨rfl,rfl⟩,⟨rfl,rfl⟩,⟨rfl,rfl⟩,⟨rfl,rfl⟩,⟨rfl,rfl⟩,trivial⟩,trivial,⟨⟨rfl,rfl⟩,⟨rfl,rfl⟩,⟨rfl,rfl⟩,⟨rfl,rfl⟩,⟨rfl,rfl⟩,trivial⟩,⟨?_,nP⟩,trivial⟩;refine Eq.trans (Yc (by rw[hpl];exact hlt)) ?_;have e3:fO (FE es k i) (((i:Nat):Int)).toNat=fO es i:=ei;rw[ei,e3];exact RF h hi hlt
  ·show es.length-(i+1)<es.length-i;omega
 ·have hge:i=es.length:=by
   have q2:decide (((i:Nat):Int)<((FE es k i).length:Nat))=false:=q1;rw[hpl]at q2;simp only[qP]at q2;omega
  subst hge;refine fin [(10000,20000)] (aI rfl ?_);exact⟨⟨Vz h,nP⟩,trivial⟩
theorem Ki:bI Tryz.prog 11=true:=by kernel_rfl
theorem Kh:bI Tryz.prog 15=true:=by kernel_rfl
abbrev yW(es:List aB)(k:Nat):aB:=elt (dflt aP) es (IntKind.i64.wrap (((k:Nat):Int)+1))
section
variable (bk:List (List aj))(xs:List aj)(es os:List aB)
theorem XW{c:Int}(h:aA Tryz.prog 37 [.rsl aZ bk,.rp aZ xs,.rsl aP os] [] (.tup [.agg [.raw (.slice none 0 0)],.int .i64 c]) []):
  aA Tryz.prog 37 [.rsl aZ bk,.ptr 10000 0,.sl 10001] [.dF 10000 37 [.rsl aF xs],.row 10001 67 5 aP os []] (.tup [.agg [.raw (.slice none 0 0)],.int .i64 c]) [.dF 10000 37 [.rsl aF xs],.row 10001 67 5 aP os []]:=
 aA.Du (ts2:=[]) aG [0,64,30] j6 h rfl rfl rfl
theorem Zv{g:List aj}(h:aA Tryz.prog 37 [.rsl aZ bk,.rp aZ xs,.rsl aP os] [] (.tup [.agg [.sl 10000],.int .i64 0]) [.row 10000 117 5 aF g []]):
  aA Tryz.prog 37 [.rsl aZ bk,.ptr 10000 0,.sl 10001] [.dF 10000 37 [.rsl aF xs],.row 10001 67 5 aP os []] (.tup [.agg [.sl 10002],.int .i64 0]) [.row 10002 117 5 aF g [],.dF 10000 37 [.rsl aF xs],.row 10001 67 5 aP os []]:=
 aA.Du (ts2:=[.row 10002 117 5 aF g []]) aG [0,64,30] j6 h rfl rfl rfl
abbrev XC(es:List aB)(c:Int):Prop:=aA Tryz.prog 37 [.rsl aZ bk,.rp aZ xs,.rsl aP es] [] (.tup [.agg [.raw (.slice none 0 0)],.int .i64 c]) []
abbrev U4(es:List aB)(g:List aj):Prop:=aA Tryz.prog 37 [.rsl aZ bk,.rp aZ xs,.rsl aP es] [] (.tup [.agg [.sl 10000],.int .i64 0]) [.row 10000 117 5 aF g []]
theorem Yb{c k:Int}(hc:c≠0)(h:XC bk xs es c):aA Tryz.prog 11 [.rsl aZ bk,.agg [.rsl aF xs],.rsl aP es,.int .i64 k] [] (.tup [.raw (.slice none 0 0),.int .i64 c]) []:=by
 refine aA.intro (nt:=75) aG mixed Ki Tryz.func11 rfl rfl rfl rfl rfl rfl ?_;refine Or.inr (eI _ (eI _ (aI (XU bk xs h) ?_)));refine aI (fun q=> ?_) (fun q=> ?_)
 ·exact fin [] (aI rfl trivial)
 ·exfalso;have q2:(c !=0)=false:=q;simp at q2;exact hc q2
theorem exS2{k:Int}{g:List aj}(h:U4 bk xs es g)(hl:es.length≤300)(hk:¬(0≤k∧k≤(es.length:Int)-2)):aA Tryz.prog 11 [.rsl aZ bk,.agg [.rsl aF xs],.rsl aP es,.int .i64 k] [] (.tup [.raw (.slice none 0 0),.int .i64 2]) []:=by
 have w:IntKind.i64.wrap ((es.length:Int)-2)=(es.length:Int)-2:=K9 (by omega)
 have hin:fA k 0 (IntKind.i64.wrap ((es.length:Int)-2))=false:=by
  rw[w];cases hh:fA k 0 ((es.length:Int)-2)with
  |false=>rfl
  |true=>exact absurd (iw hh) hk
 refine aA.intro (nt:=75) aG mixed Ki Tryz.func11 rfl rfl rfl rfl rfl rfl ?_;refine Or.inr (eI _ (eI _ (aI (Cz bk xs h) ?_)));refine aI (fun q=>by cases q) (fun _=> ?_);refine Or.inl (eI _ (aI (Bg _ _ _) ?_));refine aI (fun q=> ?_) (fun q=> ?_)
 ·exact fin [] (aI rfl trivial)
 ·exfalso;have q2:(!fA k 0 (IntKind.i64.wrap ((es.length:Int)-2)))=false:=q;rw[hin]at q2;cases q2
variable (k:Nat)(hk:k+1<es.length)(hl:es.length≤300)
include hk hl
theorem FH:fA ((k:Nat):Int) 0 (IntKind.i64.wrap ((es.length:Int)-2))=true:=by
 rw[K9 (by omega)];unfold fA;simp only[qD,qQ];omega
theorem exS3{g b:List aj}(h:U4 bk xs es g)(h2:U4 bk xs (es.take k) b)(hb:b.length≤1000000)(hn:(fQ b (yW es k).1&&(fQ b (yW es k).2.1&&lI b (yW es k).1 (yW es k).2.1))=false)(hp:fQ b (yW es k).1=true→0<(ah b (yW es k).1).2.2.2.2.length):
  aA Tryz.prog 11 [.rsl aZ bk,.agg [.rsl aF xs],.rsl aP es,.int .i64 (k:Nat)] [] (.tup [.raw (.slice none 0 0),.int .i64 5]) []:=by
 have w1:IntKind.i64.wrap (((k:Nat):Int)+1)=((k+1:Nat):Int):=dH (by omega);refine aA.intro (nt:=75) aG mixed Ki Tryz.func11 rfl rfl rfl rfl rfl rfl ?_;refine Or.inr (eI _ (eI _ (aI (Cz bk xs h) ?_)));refine aI (fun q=>by cases q) (fun _=> ?_);refine Or.inl (eI _ (aI (Bg _ _ _) ?_));refine aI (fun q=> ?_) (fun _=> ?_)
 ·exfalso;have q2:(!fA ((k:Nat):Int) 0 (IntKind.i64.wrap ((es.length:Int)-2)))=true:=q;rw[FH es k hk hl]at q2;cases q2
 refine aI (show 0≤((k:Nat):Int)∧((k:Nat):Int)≤(es.length:Nat) by omega) ?_;refine Or.inr (eI _ (eI _ (aI (Cz bk xs h2) ?_)));refine aI (show 0≤IntKind.i64.wrap (((k:Nat):Int)+1)∧IntKind.i64.wrap (((k:Nat):Int)+1)<(es.length:Nat) by rw[w1];omega) ?_;refine Or.inr (eI _ (eI _ (aI (kW b [] (yW es k).1 hb) ?_)));cases ha:fQ b (yW es k).1 with
 |false=>
  refine Or.inr (aI (fun gg=>by cases gg) (fun gg=> ?_));refine eI (.bool false) ?_;refine Or.inr (aI (fun gg=>by cases gg) (fun gg=> ?_));refine eI (.bool false) ?_;refine aI (fun q=> ?_) (fun q=>by cases q);exact fin [] (aI rfl trivial)
 |true=>
  rw[ha,Bool.true_and]at hn;refine Or.inr (aI (fun gg=> ?_) (fun gg=>by cases gg));refine eI _ (eI _ (aI (kW b [] (yW es k).2.1 hb) ?_));cases hb2:fQ b (yW es k).2.1 with
  |false=>
   refine Or.inr (aI (fun gg=>by cases gg) (fun gg=> ?_));refine eI (.bool false) ?_;refine aI (fun q=> ?_) (fun q=>by cases q);exact fin [] (aI rfl trivial)
  |true=>
   rw[hb2,Bool.true_and]at hn;refine Or.inr (aI (fun gg=> ?_) (fun gg=>by cases gg));refine eI _ (eI _ (aI (uH b [] hb (yW es k).1 (yW es k).2.1 (nQ ha) (hp ha)) ?_));rw[hn];refine aI (fun q=> ?_) (fun q=>by cases q);exact fin [] (aI rfl trivial)
structure Ready(b:List aj)(y:aB):Prop where
 ta:fQ b y.1=true
 tb:fQ b y.2.1=true
 ac:lI b y.1 y.2.1=true
 hp:0<(ah b y.1).2.2.2.2.length
theorem exS4{g b:List aj}{c:Int}(hs:XD es)(h:U4 bk xs es g)(h2:U4 bk xs (es.take k) b)(hb:b.length≤1000000)(hr:Ready b (yW es k))(hc:c≠0)(h3:XC bk xs (lU es k) c):
  aA Tryz.prog 11 [.rsl aZ bk,.agg [.rsl aF xs],.rsl aP es,.int .i64 (k:Nat)] [] (.tup [.raw (.slice none 0 0),.int .i64 c]) []:=by
 have w1:IntKind.i64.wrap (((k:Nat):Int)+1)=((k+1:Nat):Int):=dH (by omega);obtain⟨ha,hb2,hac,hp⟩:=hr;refine aA.intro (nt:=75) aG mixed Ki Tryz.func11 rfl rfl rfl rfl rfl rfl ?_;refine Or.inr (eI _ (eI _ (aI (Cz bk xs h) ?_)));refine aI (fun q=>by cases q) (fun _=> ?_);refine Or.inl (eI _ (aI (Bg _ _ _) ?_));refine aI (fun q=> ?_) (fun _=> ?_)
 ·exfalso;have q2:(!fA ((k:Nat):Int) 0 (IntKind.i64.wrap ((es.length:Int)-2)))=true:=q;rw[FH es k hk hl]at q2;cases q2
 refine aI (show 0≤((k:Nat):Int)∧((k:Nat):Int)≤(es.length:Nat) by omega) ?_;refine Or.inr (eI _ (eI _ (aI (Cz bk xs h2) ?_)));refine aI (show 0≤IntKind.i64.wrap (((k:Nat):Int)+1)∧IntKind.i64.wrap (((k:Nat):Int)+1)<(es.length:Nat) by rw[w1];omega) ?_;refine Or.inr (eI _ (eI _ (aI (kW b [] (yW es k).1 hb) ?_)));rw[ha];refine Or.inr (aI (fun gg=> ?_) (fun gg=>by cases gg));refine eI _ (eI _ (aI (kW b [] (yW es k).2.1 hb) ?_));rw[hb2];refine Or.inr (aI (fun gg=> ?_) (fun gg=>by cases gg));refine eI _ (eI _ (aI (uH b [] hb (yW es k).1 (yW es k).2.1 (nQ ha) hp) ?_))
 rw[hac];refine aI (fun q=>by cases q) (fun _=> ?_);refine Or.inr (eI _ (eI _ (aI (Xt es k hk hs) ?_)));refine Or.inr (eI _ (eI _ (aI (XW bk xs (lU es k) h3) ?_)));refine aI (fun q=> ?_) (fun q=> ?_)
 ·exact fin [] (aI rfl trivial)
 ·exfalso;have q2:(c !=0)=false:=q;simp at q2;exact hc q2
theorem exS5{g b f:List aj}(hs:XD es)(h:U4 bk xs es g)(h2:U4 bk xs (es.take k) b)(hb:b.length≤1000000)(hr:Ready b (yW es k))(h3:U4 bk xs (lU es k) f):
  aA Tryz.prog 11 [.rsl aZ bk,.agg [.rsl aF xs],.rsl aP es,.int .i64 (k:Nat)] [] (.tup [.sl 10000,.int .i64 0]) [.row 10000 67 5 aP (lU es k) []]:=by
 have w1:IntKind.i64.wrap (((k:Nat):Int)+1)=((k+1:Nat):Int):=dH (by omega);obtain⟨ha,hb2,hac,hp⟩:=hr;refine aA.intro (nt:=75) aG mixed Ki Tryz.func11 rfl rfl rfl rfl rfl rfl ?_;refine Or.inr (eI _ (eI _ (aI (Cz bk xs h) ?_)));refine aI (fun q=>by cases q) (fun _=> ?_);refine Or.inl (eI _ (aI (Bg _ _ _) ?_));refine aI (fun q=> ?_) (fun _=> ?_)
 ·exfalso;have q2:(!fA ((k:Nat):Int) 0 (IntKind.i64.wrap ((es.length:Int)-2)))=true:=q;rw[FH es k hk hl]at q2;cases q2
 refine aI (show 0≤((k:Nat):Int)∧((k:Nat):Int)≤(es.length:Nat) by omega) ?_;refine Or.inr (eI _ (eI _ (aI (Cz bk xs h2) ?_)));refine aI (show 0≤IntKind.i64.wrap (((k:Nat):Int)+1)∧IntKind.i64.wrap (((k:Nat):Int)+1)<(es.length:Nat) by rw[w1];omega) ?_;refine Or.inr (eI _ (eI _ (aI (kW b [] (yW es k).1 hb) ?_)));rw[ha];refine Or.inr (aI (fun gg=> ?_) (fun gg=>by cases gg));refine eI _ (eI _ (aI (kW b [] (yW es k).2.1 hb) ?_));rw[hb2];refine Or.inr (aI (fun gg=> ?_) (fun gg=>by cases gg));refine eI _ (eI _ (aI (uH b [] hb (yW es k).1 (yW es k).2.1 (nQ ha) hp) ?_))
 rw[hac];refine aI (fun q=>by cases q) (fun _=> ?_);refine Or.inr (eI _ (eI _ (aI (Xt es k hk hs) ?_)));refine Or.inr (eI _ (eI _ (aI (Zv bk xs (lU es k) h3) ?_)));refine aI (fun q=>by cases q) (fun _=> ?_);refine fin [(10000,64)] (aI rfl ?_);exact⟨⟨rfl,nP⟩,trivial⟩
end
end Go.Proofs.YtbdimbjclhmeoaaGreat
namespace Go.Proofs.YtbdimbjclhmeoaaGreat
open Go Go.RowKit Go.Proofs Go.Tr
theorem Ve(m st:Int):aA Tryz.prog 45 [.int .i64 m,.sl 10000] [.row 10000 2 1 (.int .i64) [st] []] (.bool (fA st 0 m)) [.row 10000 2 1 (.int .i64) [st] []]:=by
 rw[←XM];exact aA.sU aG [0,47] Xi (atMQ m [st] (by simp)) rfl
theorem FU{w0 w:World}{F0:List Nat}{A C:List eB}:∀{B:List eB},Inv w0 F0 w (A++(B++C))→Inv w0 F0 w (A++C)
 |[],h=>h
 |b::B,h=>FU (B:=B) (Inv.tail (h.perm (List.perm_middle (a:=b) (l₁:=A) (l₂:=B++C))))
theorem aA.one{P:Program}{f:Nat}{args:List SV}{ts rest:List Tok}{r:SV}{t:Tok}(h:aA P f args ts r (t::rest)):aA P f args ts r [t]:=
 ⟨h.1,fun cx β w fr vs hI hd=>(h.2 cx β w fr vs hI hd).mono fun _ _ ⟨v,β',e,k1,k2,k3⟩=>⟨v,β',e,k1,k2,FU (A:=[Tok.res cx β' t]) (B:=rest.map (Tok.res cx β')) (C:=fr) k3⟩⟩
section
variable (bk:List (List aj))(xs:List aj)(es os:List aB)
abbrev UY(es:List aB)(c:Int):Prop:=aA Tryz.prog 44 [.rsl aZ bk,.agg [.rsl aF xs],.rsl aP es] [] (.tup [.raw (.pointer none),.int .i64 c]) []
abbrev EF(es:List aB)(k:List (Int×Bool))(f:List aj):Prop:=aA Tryz.prog 44 [.rsl aZ bk,.agg [.rsl aF xs],.rsl aP es] [] (.tup [.ptr 10000 0,.int .i64 0]) (tR f [] bk k es)
theorem XV{c:Int}(h:UY bk xs os c):aA Tryz.prog 44 [.rsl aZ bk,.agg [.rsl aF xs],.sl 10000] [.row 10000 67 5 aP os []] (.tup [.raw (.pointer none),.int .i64 c]) [.row 10000 67 5 aP os []]:=
 aA.Du (ts2:=[]) aG [0,0,30] pX h rfl rfl rfl
theorem Zu{kv:List (Int×Bool)}{f:List aj}(h:EF bk xs os kv f):aA Tryz.prog 44 [.rsl aZ bk,.agg [.rsl aF xs],.sl 10000] [.row 10000 67 5 aP os []] (.tup [.ptr 10001 0,.int .i64 0])
  ([.dF 10001 106 [.ptr 10002 0,.sl 10005]]++[.row 10000 67 5 aP os []]):=
 aA.Du (ts2:=[.dF 10001 106 [.ptr 10002 0,.sl 10005]]) aG [0,0,30] pX (aA.one h) rfl rfl rfl
theorem X9{c k:Int}(hc:c≠0)(h:UY bk xs es c):aA Tryz.prog 15 [.rsl aZ bk,.agg [.rsl aF xs],.rsl aP es,.int .i64 k] [] (.tup [.raw (.slice none 0 0),.int .i64 c]) []:=by
 refine aA.intro (nt:=83) aG mixed Kh Tryz.func15 rfl rfl rfl rfl rfl rfl ?_;refine Or.inr (eI _ (eI _ (aI h ?_)));refine aI (fun q=> ?_) (fun q=> ?_)
 ·exact fin [] (aI rfl trivial)
 ·exfalso;have q2:(c !=0)=false:=q;simp at q2;exact hc q2
theorem exI2{k:Int}{kv:List (Int×Bool)}{f:List aj}(h:EF bk xs es kv f)(hl:es.length≤300)(hk:¬(0≤k∧k≤(es.length:Int)-2)):aA Tryz.prog 15 [.rsl aZ bk,.agg [.rsl aF xs],.rsl aP es,.int .i64 k] [] (.tup [.raw (.slice none 0 0),.int .i64 2]) []:=by
 have w:IntKind.i64.wrap ((es.length:Int)-2)=(es.length:Int)-2:=K9 (by omega)
 have hin:fA k 0 (IntKind.i64.wrap ((es.length:Int)-2))=false:=by
  rw[w];cases hh:fA k 0 ((es.length:Int)-2)with
  |false=>rfl
  |true=>exact absurd (iw hh) hk
 refine aA.intro (nt:=83) aG mixed Kh Tryz.func15 rfl rfl rfl rfl rfl rfl ?_;refine Or.inr (eI _ (eI _ (aI h ?_)));refine aI (fun q=>by cases q) (fun _=> ?_);refine Or.inr (eI _ (eI _ (aI (Ve _ k) ?_)));refine aI (fun q=> ?_) (fun q=> ?_)
 ·exact fin [] (aI rfl trivial)
 ·exfalso;have q2:(!fA k 0 (IntKind.i64.wrap ((es.length:Int)-2)))=false:=q;rw[hin]at q2;cases q2
variable (k:Nat)(hk:k+1<es.length)(hl:es.length≤300)
include hk hl
theorem exI3{kv kb:List (Int×Bool)}{f b:List aj}(h:EF bk xs es kv f)(h2:EF bk xs (es.take k) kb b)(hn:(dX b kb (yW es k).1&&(dX b kb (yW es k).2.1&&kH b (yW es k).1 (yW es k).2.1))=false)(hp:dX b kb (yW es k).1=true→0<(ah b (yW es k).1).2.2.2.2.length):
  aA Tryz.prog 15 [.rsl aZ bk,.agg [.rsl aF xs],.rsl aP es,.int .i64 (k:Nat)] [] (.tup [.raw (.slice none 0 0),.int .i64 5]) []:=by
 have w1:IntKind.i64.wrap (((k:Nat):Int)+1)=((k+1:Nat):Int):=dH (by omega);refine aA.intro (nt:=83) aG mixed Kh Tryz.func15 rfl rfl rfl rfl rfl rfl ?_;refine Or.inr (eI _ (eI _ (aI h ?_)));refine aI (fun q=>by cases q) (fun _=> ?_);refine Or.inr (eI _ (eI _ (aI (Ve _ _) ?_)));refine aI (fun q=> ?_) (fun _=> ?_)
 ·exfalso;have q2:(!fA ((k:Nat):Int) 0 (IntKind.i64.wrap ((es.length:Int)-2)))=true:=q;rw[FH es k hk hl]at q2;cases q2
 refine aI (show 0≤((k:Nat):Int)∧((k:Nat):Int)≤(es.length:Nat) by omega) ?_;refine Or.inr (eI _ (eI _ (aI h2 ?_)));refine aI (by kernel_rfl) ?_;refine aI (show 0≤IntKind.i64.wrap (((k:Nat):Int)+1)∧IntKind.i64.wrap (((k:Nat):Int)+1)<(es.length:Nat) by rw[w1];omega) ?_;refine Or.inr (eI _ (eI _ (aI (kX b [] bk kb (es.take k) (yW es k).1) ?_)));cases ha:dX b kb (yW es k).1 with
 |false=>
  refine Or.inr (aI (fun gg=>by cases gg) (fun gg=> ?_));refine eI (.bool false) ?_;refine Or.inr (aI (fun gg=>by cases gg) (fun gg=> ?_));refine eI (.bool false) ?_;refine aI (fun q=> ?_) (fun q=>by cases q);exact fin [] (aI rfl trivial)
 |true=>
  rw[ha,Bool.true_and]at hn;refine Or.inr (aI (fun gg=> ?_) (fun gg=>by cases gg));refine eI _ (eI _ (aI (kX b [] bk kb (es.take k) (yW es k).2.1) ?_));cases hb2:dX b kb (yW es k).2.1 with
  |false=>
   refine Or.inr (aI (fun gg=>by cases gg) (fun gg=> ?_));refine eI (.bool false) ?_;refine aI (fun q=> ?_) (fun q=>by cases q);exact fin [] (aI rfl trivial)
  |true=>
   rw[hb2,Bool.true_and]at hn;refine Or.inr (aI (fun gg=> ?_) (fun gg=>by cases gg));refine eI _ (eI _ (aI (uI b [] bk kb (es.take k) (yW es k).1 (yW es k).2.1 (fT ha) (fT hb2) (hp ha)) ?_));rw[hn];refine aI (fun q=> ?_) (fun q=>by cases q);exact fin [] (aI rfl trivial)
structure Lc(b:List aj)(kb:List (Int×Bool))(y:aB):Prop where
 ta:dX b kb y.1=true
 tb:dX b kb y.2.1=true
 ac:kH b y.1 y.2.1=true
 hp:0<(ah b y.1).2.2.2.2.length
theorem exI4{kv kb:List (Int×Bool)}{f b:List aj}{c:Int}(hs:XD es)(hab:(fO es (k+1)).2.2.2.1=(fO es k).2.2.2.1+(fO es k).2.2.2.2)(h:EF bk xs es kv f)(h2:EF bk xs (es.take k) kb b)(hr:Lc b kb (yW es k))(hc:c≠0)(h3:UY bk xs (lU es k) c):
  aA Tryz.prog 15 [.rsl aZ bk,.agg [.rsl aF xs],.rsl aP es,.int .i64 (k:Nat)] [] (.tup [.raw (.slice none 0 0),.int .i64 4]) []:=by
 obtain⟨ha,hb2,hac,hp⟩:=hr;have w1:IntKind.i64.wrap (((k:Nat):Int)+1)=((k+1:Nat):Int):=dH (by omega);refine aA.intro (nt:=83) aG mixed Kh Tryz.func15 rfl rfl rfl rfl rfl rfl ?_;refine Or.inr (eI _ (eI _ (aI h ?_)));refine aI (fun q=>by cases q) (fun _=> ?_);refine Or.inr (eI _ (eI _ (aI (Ve _ _) ?_)));refine aI (fun q=> ?_) (fun _=> ?_)
 ·exfalso;have q2:(!fA ((k:Nat):Int) 0 (IntKind.i64.wrap ((es.length:Int)-2)))=true:=q;rw[FH es k hk hl]at q2;cases q2
 refine aI (show 0≤((k:Nat):Int)∧((k:Nat):Int)≤(es.length:Nat) by omega) ?_;refine Or.inr (eI _ (eI _ (aI h2 ?_)));refine aI (by kernel_rfl) ?_;refine aI (show 0≤IntKind.i64.wrap (((k:Nat):Int)+1)∧IntKind.i64.wrap (((k:Nat):Int)+1)<(es.length:Nat) by rw[w1];omega) ?_;refine Or.inr (eI _ (eI _ (aI (kX b [] bk kb (es.take k) (yW es k).1) ?_)));rw[ha];refine Or.inr (aI (fun gg=> ?_) (fun gg=>by cases gg));refine eI _ (eI _ (aI (kX b [] bk kb (es.take k) (yW es k).2.1) ?_));rw[hb2];refine Or.inr (aI (fun gg=> ?_) (fun gg=>by cases gg))
 refine eI _ (eI _ (aI (uI b [] bk kb (es.take k) (yW es k).1 (yW es k).2.1 (fT ha) (fT hb2) hp) ?_));rw[hac];refine aI (fun q=>by cases q) (fun _=> ?_);refine Or.inr (eI _ (eI _ (aI (WZ es k hk hs hab) ?_)));refine Or.inr (eI _ (eI _ (aI (XV bk xs (lU es k) h3) ?_)));refine aI (fun q=> ?_) (fun q=> ?_)
 ·exact fin [] (aI rfl trivial)
 ·exfalso;have q2:(c !=0)=false:=q;simp at q2;exact hc q2
theorem exI5{kv kb kc:List (Int×Bool)}{f b d:List aj}(hs:XD es)(hab:(fO es (k+1)).2.2.2.1=(fO es k).2.2.2.1+(fO es k).2.2.2.2)(h:EF bk xs es kv f)(h2:EF bk xs (es.take k) kb b)(hr:Lc b kb (yW es k))(h3:EF bk xs (lU es k) kc d):
  aA Tryz.prog 15 [.rsl aZ bk,.agg [.rsl aF xs],.rsl aP es,.int .i64 (k:Nat)] [] (.tup [.sl 10000,.int .i64 0]) [.row 10000 67 5 aP (lU es k) []]:=by
 obtain⟨ha,hb2,hac,hp⟩:=hr;have w1:IntKind.i64.wrap (((k:Nat):Int)+1)=((k+1:Nat):Int):=dH (by omega);refine aA.intro (nt:=83) aG mixed Kh Tryz.func15 rfl rfl rfl rfl rfl rfl ?_;refine Or.inr (eI _ (eI _ (aI h ?_)));refine aI (fun q=>by cases q) (fun _=> ?_);refine Or.inr (eI _ (eI _ (aI (Ve _ _) ?_)));refine aI (fun q=> ?_) (fun _=> ?_)
 ·exfalso;have q2:(!fA ((k:Nat):Int) 0 (IntKind.i64.wrap ((es.length:Int)-2)))=true:=q;rw[FH es k hk hl]at q2;cases q2
 refine aI (show 0≤((k:Nat):Int)∧((k:Nat):Int)≤(es.length:Nat) by omega) ?_;refine Or.inr (eI _ (eI _ (aI h2 ?_)));refine aI (by kernel_rfl) ?_;refine aI (show 0≤IntKind.i64.wrap (((k:Nat):Int)+1)∧IntKind.i64.wrap (((k:Nat):Int)+1)<(es.length:Nat) by rw[w1];omega) ?_;refine Or.inr (eI _ (eI _ (aI (kX b [] bk kb (es.take k) (yW es k).1) ?_)));rw[ha];refine Or.inr (aI (fun gg=> ?_) (fun gg=>by cases gg));refine eI _ (eI _ (aI (kX b [] bk kb (es.take k) (yW es k).2.1) ?_));rw[hb2];refine Or.inr (aI (fun gg=> ?_) (fun gg=>by cases gg))
 refine eI _ (eI _ (aI (uI b [] bk kb (es.take k) (yW es k).1 (yW es k).2.1 (fT ha) (fT hb2) hp) ?_));rw[hac];refine aI (fun q=>by cases q) (fun _=> ?_);refine Or.inr (eI _ (eI _ (aI (WZ es k hk hs hab) ?_)));refine Or.inr (eI _ (eI _ (aI (Zu bk xs (lU es k) h3) ?_)));refine aI (fun q=>by cases q) (fun _=> ?_);refine fin [(10000,72)] (aI rfl ?_);exact⟨⟨rfl,nP⟩,trivial⟩
end
end Go.Proofs.YtbdimbjclhmeoaaGreat
