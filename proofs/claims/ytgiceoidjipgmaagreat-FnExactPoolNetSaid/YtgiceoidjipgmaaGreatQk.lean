
/- A pool's memory: its net, by the reference. -/
import Derived.Test.YtgiceoidjipgmaaGreatShort
import Derived.Test.YtgiceoidjipgmaaGreatQj
set_option maxHeartbeats 4000000
set_option maxRecDepth 100000
set_option linter.unusedSimpArgs false
set_option linter.unusedVariables false
namespace Go.Tr
open Go Go.RowKit
def rM(kv:List (Int×bX))(i:Int):bX:=bif gF kv i then dI (0,0) kv i else(-1,0)
def dO(kv:List (Int×bX))(n:Nat):List bX:=(List.range n).map fun i:Nat=>rM kv (i:Nat)
def dZ(xs:List ah)(n:Nat):List Int:=(List.range n).map fun i:Nat=>vo xs (i:Nat)
theorem wB(kv:List (Int×bX))(n:Nat):(dO kv n).length=n:=by simp[dO]
theorem pG(xs:List ah)(n:Nat):(dZ xs n).length=n:=by simp[dZ]
theorem ET(kv:List (Int×bX)){n:Nat}{i:Int}(h0:0≤i)(h1:i<(n:Nat)):elt (dflt aR) (dO kv n) i=rM kv i:=by
 obtain⟨m,rfl⟩:∃m:Nat,i=(m:Nat):=⟨i.toNat,by omega⟩;show(dO kv n).getD ((m:Nat):Int).toNat _=_;rw[Int.toNat_natCast,List.getD_eq_getElem?_getD];simp[dO,show m<n by omega]
theorem zO(xs:List ah){n:Nat}{i:Int}(h0:0≤i)(h1:i<(n:Nat)):elt (0:Int) (dZ xs n) i=vo xs i:=by
 obtain⟨m,rfl⟩:∃m:Nat,i=(m:Nat):=⟨i.toNat,by omega⟩;show(dZ xs n).getD ((m:Nat):Int).toNat _=_;rw[Int.toNat_natCast,List.getD_eq_getElem?_getD];simp[dZ,show m<n by omega]
theorem Ch(kv:List (Int×bX)){n:Nat}{i:Int}(h0:0≤i)(p:bX):(dO kv n).set i.toNat p=dO (gW kv i p) n:=by
 obtain⟨m,rfl⟩:∃m:Nat,i=(m:Nat):=⟨i.toNat,by omega⟩;rw[Int.toNat_natCast];refine List.ext_getElem (by simp[dO]) fun j h1 h2=> ?_
 simp only[dO,List.getElem_set,List.getElem_map,List.getElem_range];unfold rM;rw[zl,wK]
 by_cases e:m=j
 ·subst e;simp
 ·rw[if_neg e,if_neg (by omega),beq_eq_false_iff_ne.2 (by omega:((m:Nat):Int)≠(j:Nat))];rfl
theorem zf(n:Nat):dO [] n++[(-1,0)]=dO [] (n+1):=by
 unfold dO;rw[List.range_succ,List.map_append];rfl
theorem Bz(xs:List ah)(n:Nat):dZ xs n++[(((bI xs n).length:Nat):Int)]=dZ xs (n+1):=by
 unfold dZ;rw[List.range_succ,List.map_append];rfl
theorem zh{xs:List ah}{s:yg}(h:qP xs s)(i:Int):decide (0≤(rM s.2 i).1)=gF s.2 i:=by
 unfold rM;cases hk:gF s.2 i with
 |true=>exact decide_eq_true (h.kv i hk).1
 |false=>rfl
def eT(m:bE):Nat→yg
 |0=>(bI m.1 m.1.length,[])
 |_+1=>eP m
def Ol(m:bE):Nat→yg
 |0=>(bI m.1 m.1.length,[])
 |j+1=>bQ m.1 (eP m) j
def idx:Nat→Int
 |0=> -1
 |j+1=>(j:Nat)
end Go.Tr
namespace Go.Proofs.YtgiceoidjipgmaaGreat
open Go Go.RowKit Go.Proofs Go.Tr
theorem JG(xs:List ah)(us:List Value)(k l v:Int)(n:Nat)(ds:List Int)(hd0:ds.length≤1048576)(hl:xs.length≤1000000)(hn:n≤1100000):aC Tryz.prog 75 [.ptr 10000 0,.int .i64 k,.int .i64 l,.int .i64 v,.rsl (.int .i64) ds,.int .i64 (n:Nat)] (tA xs us) (.int .i64 (xs.length:Nat)) (tAn 10002 (xs++[lV k l v ds n]) us):=by
 refine aC.intro (nt:=48) aQ mixed Iy Tryz.func75 rfl rfl rfl rfl rfl rfl ?_;refine Or.inr (eI _ (eI _ (aI (NQ ds hd0) ?_)))
 refine lp Nat (fun j=>[(14,.int .i64 ((n:Nat)-(j:Nat)))])
  (fun j=>match j with|0=>[.bY 13 105 [.int .i64 k,.int .i64 l,.int .i64 v,.sl 19,.raw (.slice none 0 0)],.bY 10000 34 [.sl 10001],.row 10001 105 5 aL xs us,.row 19 2 1 (.int .i64) ds []]|j+1=>[.bY 13 105 [.int .i64 k,.int .i64 l,.int .i64 v,.sl 19,.sl 20001],.bY 10000 34 [.sl 10001],.row 10001 105 5 aL xs us,.row 19 2 1 (.int .i64) ds [],.row 20001 137 2 aR (List.replicate (j+1) (0,0)) []])
  (fun j=>n-j) (fun j=>j≤n) 0 (Nat.zero_le _) ?_ ?_
 ·exact Go.Tr.hd [] rfl (aI (aI (Int.sub_zero _).symm rfl) trivial) ⟨trivial,⟨⟨rfl,rfl⟩,⟨rfl,rfl⟩,⟨rfl,rfl⟩,rfl,rfl,trivial⟩,trivial,⟨rfl,trivial⟩,⟨rfl,pR _⟩,⟨rfl,nP⟩,trivial⟩
 intro j hj;have hwr:IntKind.i64.wrap ((n:Nat)-(j:Nat)-1)=(n:Nat)-((j+1:Nat):Int):=by rw[IntWalk.i64_in _ (by omega)];omega
 cases j with
 |zero=>
  refine aI (fun q1=> ?_) (fun q1=> ?_)
  ·have hlt:0<n:=by have q2:decide ((0:Int)<(n:Nat)-((0:Nat):Int))=true:=q1;simp at q2;omega
   refine aI (by show 1≤1073741824;omega) ?_;refine aM 1 (by omega) ?_ ?_
   ·exact Go.Tr.hd [(20001,30)] rfl (aI (aI hwr rfl) trivial) ⟨trivial,⟨⟨rfl,rfl⟩,⟨rfl,rfl⟩,⟨rfl,rfl⟩,rfl,rfl,trivial⟩,trivial,⟨rfl,trivial⟩,⟨rfl,pR _⟩,⟨rfl,nP⟩,⟨rfl,nP⟩,trivial⟩
   ·show n-1<n-0;omega
  ·have hn0:n=0:=by have q2:decide ((0:Int)<(n:Nat)-((0:Nat):Int))=false:=q1;simp at q2;omega
   refine aI (by show xs.length+1≤_;omega) ?_;refine aI (by kernel_rfl) ?_;refine fin [(10002,39)] (aI ?_ ?_)
   ·show IntKind.i64.wrap (((xs++[_]).length:Nat)-1)=((xs.length:Nat):Int)∧IntKind.i64=IntKind.i64;rw[List.length_append,List.length_singleton,IntWalk.i64_in _ (by omega)];exact⟨by omega,rfl⟩
   ·refine⟨trivial,⟨rfl,trivial⟩,⟨?_,pR _⟩,trivial⟩;show xs++[(k,l,v,ds,[])]=xs++[lV k l v ds n];unfold lV;rw[hn0];rfl
 |succ j=>
  refine aI (fun q1=> ?_) (fun q1=> ?_)
  ·have hlt:j+1<n:=by have q2:decide ((0:Int)<(n:Nat)-((j+1:Nat):Int))=true:=q1;simp at q2;omega
   refine aI (by show(List.replicate (j+1) ((0:Int),(0:Int))).length+1≤1073741824;rw[List.length_replicate];omega) ?_;refine aM (j+2) (by omega) ?_ ?_
   ·refine Go.Tr.hd [(20001,30)] rfl (aI (aI hwr rfl) trivial) ⟨trivial,⟨⟨rfl,rfl⟩,⟨rfl,rfl⟩,⟨rfl,rfl⟩,rfl,rfl,trivial⟩,trivial,⟨rfl,trivial⟩,⟨rfl,pR _⟩,⟨rfl,nP⟩,⟨?_,nP⟩,trivial⟩;show List.replicate (j+1) ((0:Int),(0:Int))++[(0,0)]=List.replicate (j+1+1) (0,0);rw[List.replicate_succ' (n:=j+1)]
   ·show n-(j+2)<n-(j+1);omega
  ·have hn0:n=j+1:=by have q2:decide ((0:Int)<(n:Nat)-((j+1:Nat):Int))=false:=q1;simp at q2;omega
   refine aI (by show xs.length+1≤_;omega) ?_;refine aI (by kernel_rfl) ?_;refine fin [(10002,39)] (aI ?_ ?_)
   ·show IntKind.i64.wrap (((xs++[_]).length:Nat)-1)=((xs.length:Nat):Int)∧IntKind.i64=IntKind.i64;rw[List.length_append,List.length_singleton,IntWalk.i64_in _ (by omega)];exact⟨by omega,rfl⟩
   ·refine⟨trivial,⟨rfl,trivial⟩,⟨?_,pR _⟩,trivial⟩;show xs++[(k,l,v,ds,List.replicate (j+1) (0,0))]=xs++[lV k l v ds n];unfold lV;rw[hn0]
theorem Nb(k l v:Int)(n:Nat)(hn:n≤1000000):aC Tryz.prog 75 [.ptr 10000 0,.int .i64 k,.int .i64 l,.int .i64 v,.raw (.slice none 0 0),.int .i64 (n:Nat)] [.bY 10000 34 [.raw (.slice none 0 0)]] (.int .i64 0) (tA [lV k l v [] n] []):=by
 refine aC.intro (nt:=48) aQ mixed Iy Tryz.func75 rfl rfl rfl rfl rfl rfl ?_;refine Or.inr (eI _ (eI _ (aI KE ?_)))
 refine lp Nat (fun j=>[(14,.int .i64 ((n:Nat)-(j:Nat)))])
  (fun j=>match j with|0=>[.bY 13 105 [.int .i64 k,.int .i64 l,.int .i64 v,.sl 19,.raw (.slice none 0 0)],.bY 10000 34 [.raw (.slice none 0 0)],.row 19 2 1 (.int .i64) [] []]|j+1=>[.bY 13 105 [.int .i64 k,.int .i64 l,.int .i64 v,.sl 19,.sl 20001],.bY 10000 34 [.raw (.slice none 0 0)],.row 19 2 1 (.int .i64) [] [],.row 20001 137 2 aR (List.replicate (j+1) (0,0)) []])
  (fun j=>n-j) (fun j=>j≤n) 0 (Nat.zero_le _) ?_ ?_
 ·exact Go.Tr.hd [] rfl (aI (aI (Int.sub_zero _).symm rfl) trivial) ⟨trivial,⟨⟨rfl,rfl⟩,⟨rfl,rfl⟩,⟨rfl,rfl⟩,rfl,rfl,trivial⟩,trivial,⟨rfl,trivial⟩,⟨rfl,nP⟩,trivial⟩
 intro j hj;have hwr:IntKind.i64.wrap ((n:Nat)-(j:Nat)-1)=(n:Nat)-((j+1:Nat):Int):=by rw[IntWalk.i64_in _ (by omega)];omega
 cases j with
 |zero=>
  refine aI (fun q1=> ?_) (fun q1=> ?_)
  ·have hlt:0<n:=by have q2:decide ((0:Int)<(n:Nat)-((0:Nat):Int))=true:=q1;simp at q2;omega
   refine aI (by show 1≤1073741824;omega) ?_;refine aM 1 (by omega) ?_ ?_
   ·exact Go.Tr.hd [(20001,30)] rfl (aI (aI hwr rfl) trivial) ⟨trivial,⟨⟨rfl,rfl⟩,⟨rfl,rfl⟩,⟨rfl,rfl⟩,rfl,rfl,trivial⟩,trivial,⟨rfl,trivial⟩,⟨rfl,nP⟩,⟨rfl,nP⟩,trivial⟩
   ·show n-1<n-0;omega
  ·have hn0:n=0:=by have q2:decide ((0:Int)<(n:Nat)-((0:Nat):Int))=false:=q1;simp at q2;omega
   refine aI (by show 1≤1073741824;omega) ?_;refine aI (by kernel_rfl) ?_;refine fin [(10001,39)] (aI ?_ ?_)
   ·exact⟨by show IntKind.i64.wrap (((1:Nat):Int)-1)=0;decide+kernel,rfl⟩
   ·refine⟨trivial,⟨rfl,trivial⟩,⟨?_,nP⟩,trivial⟩;show[(k,l,v,[],[])]=[lV k l v [] n];unfold lV;rw[hn0];rfl
 |succ j=>
  refine aI (fun q1=> ?_) (fun q1=> ?_)
  ·have hlt:j+1<n:=by have q2:decide ((0:Int)<(n:Nat)-((j+1:Nat):Int))=true:=q1;simp at q2;omega
   refine aI (by show(List.replicate (j+1) ((0:Int),(0:Int))).length+1≤1073741824;rw[List.length_replicate];omega) ?_;refine aM (j+2) (by omega) ?_ ?_
   ·refine Go.Tr.hd [(20001,30)] rfl (aI (aI hwr rfl) trivial) ⟨trivial,⟨⟨rfl,rfl⟩,⟨rfl,rfl⟩,⟨rfl,rfl⟩,rfl,rfl,trivial⟩,trivial,⟨rfl,trivial⟩,⟨rfl,nP⟩,⟨?_,nP⟩,trivial⟩;show List.replicate (j+1) ((0:Int),(0:Int))++[(0,0)]=List.replicate (j+1+1) (0,0);rw[List.replicate_succ' (n:=j+1)]
   ·show n-(j+2)<n-(j+1);omega
  ·have hn0:n=j+1:=by have q2:decide ((0:Int)<(n:Nat)-((j+1:Nat):Int))=false:=q1;simp at q2;omega
   refine aI (by show 1≤1073741824;omega) ?_;refine aI (by kernel_rfl) ?_;refine fin [(10001,39)] (aI ?_ ?_)
   ·exact⟨by show IntKind.i64.wrap (((1:Nat):Int)-1)=0;decide+kernel,rfl⟩
   ·refine⟨trivial,⟨rfl,trivial⟩,⟨?_,nP⟩,trivial⟩;show[(k,l,v,[],List.replicate (j+1) (0,0))]=[lV k l v [] n];unfold lV;rw[hn0]
theorem IE:dA Tryz.prog 38=true:=by kernel_rfl
abbrev Nr:Tok:=.bY 2 34 [.raw (.slice none 0 0)]
theorem PW{xs:List ah}(m:bE)(h:lY xs m)(hs:qQ m)(hl:m.1.length≤1500):aC Tryz.prog 38 [.rp gK m] [] (.agg [.sl 10000]) [.row 10000 105 5 aL (jG m) []]:=by
 refine aC.intro (nt:=197) aQ mixed IE Tryz.func38 rfl rfl rfl rfl rfl rfl ?_;refine Or.inr (eI _ (eI _ (aI (Nb 1 0 0 1 (by omega)) ?_)));refine lp Nat (fun i=>[(6,.int .i64 (i:Nat)),(3,.sl 20001),(5,.sl 20002)]) (fun i=>[Nr,.bY 4 34 [.sl 20000],.row 20000 105 5 aL (bI m.1 i) [],.row 20001 2 1 (.int .i64) (dZ m.1 i) [],.row 20002 137 2 aR (dO [] i) []]) (fun i=>m.1.length-i) (fun i=>i≤m.1.length) 0 (Nat.zero_le _) ?_ ?_
 ·refine Go.Tr.hd [(20000,17),(20001,15),(20002,18)] rfl (aI ⟨rfl,rfl⟩ (aI rfl (aI rfl trivial))) ?_;exact⟨trivial,⟨rfl,trivial⟩,trivial,⟨rfl,trivial⟩,⟨rfl,nP⟩,⟨rfl,nP⟩,⟨rfl,nP⟩,trivial⟩
 intro i hi;refine aI (fun q1=> ?_) (fun q1=> ?_)
 ·have hlt:i<m.1.length:=dX q1;have hal:=zL m.1 i;have hwl:(bA (aj m.1 (i:Nat))).length≤1048576:=hs.words _ (bR hlt);refine aI (show(0:Int)≤(i:Nat)∧((i:Nat):Int)<(m.1.length:Nat) by omega) ?_;refine aI (by show(dZ m.1 i).length+1≤_;rw[pG];omega) ?_;refine aI (by show(dO [] i).length+1≤_;rw[wB];omega) ?_;refine Or.inl (eI _ (aI (uG (aj m.1 (i:Nat))) ?_));have hw1:IntKind.i64.wrap (((bA (aj m.1 (i:Nat))).length:Int)+1)=(((bA (aj m.1 (i:Nat))).length+1:Nat):Int):=bD (by omega)
  cases ha:aZ (aj m.1 (i:Nat)).1 with
  |true=>
   refine aI (fun _=> ?_) (fun q=>by cases q);have hadd:=JG (bI m.1 i) [] (aj m.1 (i:Nat)).1 (aj m.1 (i:Nat)).2.1 (aj m.1 (i:Nat)).2.2.1 ((bA (aj m.1 (i:Nat))).length+1) (aj m.1 (i:Nat)).2.2.2.1 (hs.data _ (bR hlt)) (by omega) (by omega);rw[←hw1]at hadd;refine Or.inr (eI _ (eI _ (aI hadd ?_)));refine aI (by kernel_rfl) ?_;refine aM (i+1) hlt ?_ (show m.1.length-(i+1)<m.1.length-i by omega);rw[show bI m.1 (i+1)=bI m.1 i++[lV (aj m.1 (i:Nat)).1 (aj m.1 (i:Nat)).2.1 (aj m.1 (i:Nat)).2.2.1 (aj m.1 (i:Nat)).2.2.2.1 ((bA (aj m.1 (i:Nat))).length+1)] by rw[bI,ha];rfl]
   refine Go.Tr.hd [(20000,68),(20001,39),(20002,43)] rfl (aI ⟨bD (by omega),rfl⟩ (aI rfl (aI rfl trivial))) ?_;exact⟨trivial,⟨rfl,trivial⟩,trivial,⟨rfl,trivial⟩,⟨rfl,nP⟩,⟨Bz m.1 i,nP⟩,⟨zf i,nP⟩,trivial⟩
  |false=>
   refine aI (fun q=>by cases q) (fun _=> ?_);refine aM (i+1) hlt ?_ (show m.1.length-(i+1)<m.1.length-i by omega);rw[show bI m.1 (i+1)=bI m.1 i by rw[bI,ha];rfl];refine Go.Tr.hd [(20001,39),(20002,43)] rfl (aI ⟨bD (by omega),rfl⟩ (aI rfl (aI rfl trivial))) ?_;exact⟨trivial,⟨rfl,trivial⟩,trivial,⟨rfl,trivial⟩,⟨rfl,nP⟩,⟨Bz m.1 i,nP⟩,⟨zf i,nP⟩,trivial⟩
 ·have hge:m.1.length≤i:=dR q1;have hie:i=m.1.length:=by have:i≤m.1.length:=hi;omega
  subst hie;refine lp Nat (fun j=>[(8,.int .i64 (idx j)),(3,.sl 20001),(5,.sl 20002)]) (fun j=>[Nr,.bY 4 34 [.sl 20000],.row 20000 105 5 aL (Ol m j).1 [],.row 20001 2 1 (.int .i64) (dZ m.1 m.1.length) [],.row 20002 137 2 aR (dO (Ol m j).2 m.1.length) []]) (fun j=>m.1.length+1-j) (fun j=>j≤m.1.length+1) 0 (Nat.zero_le _) ?_ ?_
  ·refine Go.Tr.hd [] rfl (aI ⟨rfl,rfl⟩ (aI rfl (aI rfl trivial))) ?_;exact⟨trivial,⟨rfl,trivial⟩,trivial,⟨rfl,trivial⟩,⟨rfl,nP⟩,⟨rfl,nP⟩,⟨rfl,nP⟩,trivial⟩
  intro j hj;have hj:j≤m.1.length+1:=hj;cases j with
  |zero=>
   refine aI (fun q1=> ?_) (fun q1=> ?_)
   ·conv=>whnf
    refine aI (fun q=>absurd (of_decide_eq_true q) (by show ¬(0:Int)≤ -1;omega)) (fun _=> ?_);refine aI (fun q=>absurd (of_decide_eq_true q) (by show ¬(0:Int)≤ -1;omega)) ?_;refine Or.inl (eI _ (aI (fun _=>uG _) ?_));refine aI (fun q=>by cases q) (fun _=> ?_);refine lp Nat (fun k=>[(11,.int .i64 (k:Nat)),(3,.sl 20001),(5,.sl 20002)]) (fun k=>[Nr,.bY 4 34 [.sl 20000],.row 20000 105 5 aL (eT m k).1 [],.row 20001 2 1 (.int .i64) (dZ m.1 m.1.length) [],.row 20002 137 2 aR (dO (eT m k).2 m.1.length) [],.bY 10 137 [.int .i64 (0),.int .i64 ((k:Nat))],.row 82 38 2 aR [m.2.2.1] []]) (fun k=>1-k) (fun k=>k≤1) 0 (Nat.zero_le _) ?_ ?_
    ·exact Go.Tr.hd [] rfl (aI ⟨rfl,rfl⟩ (aI rfl (aI rfl trivial))) ⟨trivial,⟨rfl,trivial⟩,trivial,⟨rfl,trivial⟩,⟨rfl,nP⟩,⟨rfl,nP⟩,⟨rfl,nP⟩,trivial,⟨⟨rfl,rfl⟩,⟨rfl,rfl⟩,trivial⟩,⟨rfl,nP⟩,trivial⟩
    intro k hk;have hk:k≤1:=hk;refine aI (fun q2=> ?_) (fun q2=> ?_)
    ·have hklt:k<1:=dX q2;have huk:qP m.1 (eT m k):=by cases k with|zero=>exact qP.start m.1|succ k=>exact rY m
     have hpk:bq (bI m.1 m.1.length) (((0:Int),((k:Nat):Int))):=by
      obtain rfl:k=0:=by omega
      exact tN _ _
     have hwk:bH m.1 (elt (dflt aR) [m.2.2.1] ((k:Nat):Int))=true:=by
      obtain rfl:k=0:=by omega
      exact h.root
     refine aI (show(0:Int)≤(k:Nat)∧((k:Nat):Int)<(1:Nat) by omega) ?_;have hq:=I8 m (elt (dflt aR) [m.2.2.1] ((k:Nat):Int)) (by omega) h.words hwk;obtain⟨_,hr⟩:=h.res hwk
     have hnx:eT m (k+1)=rX m.1 (eT m k) ((0:Int),((k:Nat):Int)) (elt (dflt aR) [m.2.2.1] ((k:Nat):Int)):=by
      obtain rfl:k=0:=by omega
      rfl
     unfold rX at hnx;obtain⟨x,hx⟩:∃x,x=(bF m.1 (m.1.length+1) (elt (dflt aR) [m.2.2.1] ((k:Nat):Int))).1:=⟨_,rfl⟩;rw[←hx]at hr hnx hq;refine Or.inl (eI _ (aI hq ?_));clear hq hx;have hin:=dD hr;have hia:(0:Int)≤x.2∧x.2<((dZ m.1 m.1.length).length:Nat):=by rw[pG];exact hin
     have hih:(0:Int)≤x.2∧x.2<((dO (eT m k).2 m.1.length).length:Nat):=by rw[wB];exact hin
     have ha:elt (0:Int) (dZ m.1 m.1.length) x.2=vo m.1 x.2:=zO m.1 hin.1 hin.2;have hh:elt (dflt aR) (dO (eT m k).2 m.1.length) x.2=rM (eT m k).2 x.2:=ET _ hin.1 hin.2;rcases Bool.eq_false_or_eq_true (x.1==1)with ht|ht
     ·
      rw[ht]at hnx;have hnx:eT m (k+1)=(gG (eT m k).1 (((0:Int),((k:Nat):Int))) (elt (0:Int) (dZ m.1 m.1.length) x.2,0),(eT m k).2):=by rw[ha];exact hnx
      conv=>whnf
      refine aI (fun _=> ?_) (fun q=>by have q:(x.1==1)=false:=q;rw[ht]at q;cases q)
      conv=>whnf
      refine aI hia ?_
      conv=>whnf
      refine Or.inl (eI _ (aI (Fx _ _) ?_))
      conv=>whnf
      refine Or.inr (eI _ (eI _ (aI (Ck (eT m k).1 [] (((0:Int),((k:Nat):Int))) (elt (0:Int) (dZ m.1 m.1.length) x.2,0) (huk.port hpk) (by rw[ha];exact huk.port (tO hr ht))) ?_)))
      conv=>whnf
      refine aI (by kernel_rfl) ?_;refine aM (k+1) hklt ?_ (show 1-(k+1)<1-k by omega);rw[hnx];exact Go.Tr.hd [] rfl (aI ⟨bD (by omega),rfl⟩ (aI rfl (aI rfl trivial))) ⟨trivial,⟨rfl,trivial⟩,trivial,⟨rfl,trivial⟩,⟨rfl,nP⟩,⟨rfl,nP⟩,⟨rfl,nP⟩,trivial,⟨⟨rfl,rfl⟩,⟨bD (by omega),rfl⟩,trivial⟩,⟨rfl,nP⟩,trivial⟩
     ·
      rw[ht]at hnx;have htest:=zh huk x.2;rw[←hh]at htest
      conv=>whnf
      refine aI (fun q=>by have q:(x.1==1)=true:=q;rw[ht]at q;cases q) (fun _=> ?_)
      conv=>whnf
      refine aI hih ?_;rcases Bool.eq_false_or_eq_true (gF (eT m k).2 x.2)with hkv|hkv
      ·
       rw[hkv]at hnx htest;have hgt:elt (dflt aR) (dO (eT m k).2 m.1.length) x.2=dI (0,0) (eT m k).2 x.2:=by rw[hh];unfold rM;rw[hkv];rfl
       have hnx:eT m (k+1)=(gG (eT m k).1 (((0:Int),((k:Nat):Int))) (elt (dflt aR) (dO (eT m k).2 m.1.length) x.2),(eT m k).2):=by rw[hgt];exact hnx
       conv=>whnf
       refine aI (fun _=> ?_) (fun q=>by have q:decide ((0:Int)≤(elt (dflt aR) (dO (eT m k).2 m.1.length) x.2).1)=false:=q;rw[htest]at q;cases q)
       conv=>whnf
       refine aI hih ?_
       conv=>whnf
       refine Or.inr (eI _ (eI _ (aI (Ck (eT m k).1 [] (((0:Int),((k:Nat):Int))) (elt (dflt aR) (dO (eT m k).2 m.1.length) x.2) (huk.port hpk) (by rw[hgt];exact huk.port (huk.kv _ hkv))) ?_)))
       conv=>whnf
       refine aI (by kernel_rfl) ?_;refine aM (k+1) hklt ?_ (show 1-(k+1)<1-k by omega);rw[hnx];exact Go.Tr.hd [] rfl (aI ⟨bD (by omega),rfl⟩ (aI rfl (aI rfl trivial))) ⟨trivial,⟨rfl,trivial⟩,trivial,⟨rfl,trivial⟩,⟨rfl,nP⟩,⟨rfl,nP⟩,⟨rfl,nP⟩,trivial,⟨⟨rfl,rfl⟩,⟨bD (by omega),rfl⟩,trivial⟩,⟨rfl,nP⟩,trivial⟩
      ·
       rw[hkv]at hnx htest;have hnx:eT m (k+1)=((eT m k).1,gW (eT m k).2 x.2 (((0:Int),((k:Nat):Int)))):=hnx
       conv=>whnf
       refine aI (fun q=>by have q:decide ((0:Int)≤(elt (dflt aR) (dO (eT m k).2 m.1.length) x.2).1)=true:=q;rw[htest]at q;cases q) (fun _=> ?_)
       conv=>whnf
       refine aI hih ?_;refine aM (k+1) hklt ?_ (show 1-(k+1)<1-k by omega);rw[hnx];exact Go.Tr.hd [] rfl (aI ⟨bD (by omega),rfl⟩ (aI rfl (aI rfl trivial))) ⟨trivial,⟨rfl,trivial⟩,trivial,⟨rfl,trivial⟩,⟨rfl,nP⟩,⟨rfl,nP⟩,⟨Ch _ hin.1 _,nP⟩,trivial,⟨⟨rfl,rfl⟩,⟨bD (by omega),rfl⟩,trivial⟩,⟨rfl,nP⟩,trivial⟩
    ·have hge:1≤k:=dR q2;have hke:k=1:=by omega
     subst hke;refine aM 1 (by omega) ?_ (show m.1.length+1-1<m.1.length+1-0 by omega);exact Go.Tr.hd [] rfl (aI ⟨by show IntKind.i64.wrap ((-1:Int)+1)=((0:Nat):Int);decide+kernel,rfl⟩ (aI rfl (aI rfl trivial))) ⟨trivial,⟨rfl,trivial⟩,trivial,⟨rfl,trivial⟩,⟨rfl,nP⟩,⟨rfl,nP⟩,⟨rfl,nP⟩,trivial⟩
   ·exfalso;have:=of_decide_eq_false q1;exact this (by show(-1:Int)<_;omega)
  |succ j=>
   refine aI (fun q1=> ?_) (fun q1=> ?_)
   ·have hlt:j<m.1.length:=dX q1;have hjx:(0:Int)≤(j:Nat)∧((j:Nat):Int)<(m.1.length:Nat):=by omega
    have hja:(0:Int)≤(j:Nat)∧((j:Nat):Int)<((dZ m.1 m.1.length).length:Nat):=by rw[pG];omega
    have hwl:(bA (aj m.1 (j:Nat))).length≤1048576:=hs.words _ (bR hlt);have hur:=rY m;have hui:=hur.FT j (by omega);have hd0:decide ((0:Int)≤(j:Nat))=true:=decide_eq_true (by omega)
    conv=>whnf
    refine aI (fun _=> ?_) (fun q=>by have q:decide ((0:Int)≤(j:Nat))=false:=q;rw[hd0]at q;cases q);refine aI hjx ?_;refine aI hja ?_;refine aI (fun _=>hjx) ?_;refine Or.inl (eI _ (aI (fun _=>uG (aj m.1 (j:Nat))) ?_));rcases Bool.eq_false_or_eq_true (aZ (aj m.1 (j:Nat)).1)with haB|haB
    ·have htb:(bif decide ((0:Int)≤(j:Nat))then !aZ (aj m.1 (j:Nat)).1 else false)=false:=by rw[hd0,haB];rfl
     conv=>whnf
     refine aI (fun q=>by have q:(bif decide ((0:Int)≤(j:Nat))then !aZ (aj m.1 (j:Nat)).1 else false)=true:=q;rw[htb]at q;cases q) (fun _=> ?_);refine lp Nat (fun k=>[(11,.int .i64 (k:Nat)),(3,.sl 20001),(5,.sl 20002)]) (fun k=>[Nr,.bY 4 34 [.sl 20000],.row 20000 105 5 aL (eH m.1 j (bQ m.1 (eP m) j) k).1 [],.row 20001 2 1 (.int .i64) (dZ m.1 m.1.length) [],.row 20002 137 2 aR (dO (eH m.1 j (bQ m.1 (eP m) j) k).2 m.1.length) [],.bY 10 137 [.int .i64 (elt (0:Int) (dZ m.1 m.1.length) (j:Nat)),.int .i64 ((k+1:Nat):Int)],.row 82 38 2 aR [m.2.2.1] []]) (fun k=>(bA (aj m.1 (j:Nat))).length-k) (fun k=>k≤(bA (aj m.1 (j:Nat))).length) 0 (Nat.zero_le _) ?_ ?_
     ·exact Go.Tr.hd [] rfl (aI ⟨rfl,rfl⟩ (aI rfl (aI rfl trivial))) ⟨trivial,⟨rfl,trivial⟩,trivial,⟨rfl,trivial⟩,⟨rfl,nP⟩,⟨rfl,nP⟩,⟨rfl,nP⟩,trivial,⟨⟨rfl,rfl⟩,⟨rfl,rfl⟩,trivial⟩,⟨rfl,nP⟩,trivial⟩
     intro k hk;have hk:k≤(bA (aj m.1 (j:Nat))).length:=hk;refine aI (fun q2=> ?_) (fun q2=> ?_)
     ·have hklt:k<(bA (aj m.1 (j:Nat))).length:=dX q2;have huk:=hui.puts hlt haB k hk;have hat:elt (0:Int) (dZ m.1 m.1.length) (j:Nat)=vo m.1 (j:Nat):=zO m.1 (by omega) (by omega);have hpk:bq (bI m.1 m.1.length) ((elt (0:Int) (dZ m.1 m.1.length) (j:Nat),((k+1:Nat):Int))):=by rw[hat];exact pU hlt haB hklt
      have hwk:bH m.1 ((bA (aj m.1 (j:Nat))).getD k (0,0))=true:=h.words _ (bR hlt) _ (by rw[List.getD_eq_getElem?_getD,List.getElem?_eq_getElem hklt];exact List.getElem_mem hklt);refine aI (show(0:Int)≤(k:Nat)∧((k:Nat):Int)<((bA (aj m.1 (j:Nat))).length:Nat) by omega) ?_;have hq:=I8 m ((bA (aj m.1 (j:Nat))).getD k (0,0)) (by omega) h.words hwk;obtain⟨_,hr⟩:=h.res hwk;have hnx:eH m.1 j (bQ m.1 (eP m) j) (k+1)=rX m.1 (eH m.1 j (bQ m.1 (eP m) j) k) ((elt (0:Int) (dZ m.1 m.1.length) (j:Nat),((k+1:Nat):Int))) ((bA (aj m.1 (j:Nat))).getD k (0,0)):=by rw[hat];rfl
      unfold rX at hnx;obtain⟨x,hx⟩:∃x,x=(bF m.1 (m.1.length+1) ((bA (aj m.1 (j:Nat))).getD k (0,0))).1:=⟨_,rfl⟩;rw[←hx]at hr hnx hq;refine Or.inl (eI _ (aI hq ?_));clear hq hx;have hin:=dD hr;have hia:(0:Int)≤x.2∧x.2<((dZ m.1 m.1.length).length:Nat):=by rw[pG];exact hin
      have hih:(0:Int)≤x.2∧x.2<((dO (eH m.1 j (bQ m.1 (eP m) j) k).2 m.1.length).length:Nat):=by rw[wB];exact hin
      have ha:elt (0:Int) (dZ m.1 m.1.length) x.2=vo m.1 x.2:=zO m.1 hin.1 hin.2;have hh:elt (dflt aR) (dO (eH m.1 j (bQ m.1 (eP m) j) k).2 m.1.length) x.2=rM (eH m.1 j (bQ m.1 (eP m) j) k).2 x.2:=ET _ hin.1 hin.2;rcases Bool.eq_false_or_eq_true (x.1==1)with ht|ht
      ·
       rw[ht]at hnx;have hnx:eH m.1 j (bQ m.1 (eP m) j) (k+1)=(gG (eH m.1 j (bQ m.1 (eP m) j) k).1 ((elt (0:Int) (dZ m.1 m.1.length) (j:Nat),((k+1:Nat):Int))) (elt (0:Int) (dZ m.1 m.1.length) x.2,0),(eH m.1 j (bQ m.1 (eP m) j) k).2):=by rw[ha];exact hnx
       conv=>whnf
       refine aI (fun _=> ?_) (fun q=>by have q:(x.1==1)=false:=q;rw[ht]at q;cases q)
       conv=>whnf
       refine aI hia ?_
       conv=>whnf
       refine Or.inl (eI _ (aI (Fx _ _) ?_))
       conv=>whnf
       refine Or.inr (eI _ (eI _ (aI (Ck (eH m.1 j (bQ m.1 (eP m) j) k).1 [] ((elt (0:Int) (dZ m.1 m.1.length) (j:Nat),((k+1:Nat):Int))) (elt (0:Int) (dZ m.1 m.1.length) x.2,0) (huk.port hpk) (by rw[ha];exact huk.port (tO hr ht))) ?_)))
       conv=>whnf
       refine aI (by kernel_rfl) ?_;refine aM (k+1) hklt ?_ (show(bA (aj m.1 (j:Nat))).length-(k+1)<(bA (aj m.1 (j:Nat))).length-k by omega);rw[hnx];exact Go.Tr.hd [] rfl (aI ⟨bD (by omega),rfl⟩ (aI rfl (aI rfl trivial))) ⟨trivial,⟨rfl,trivial⟩,trivial,⟨rfl,trivial⟩,⟨rfl,nP⟩,⟨rfl,nP⟩,⟨rfl,nP⟩,trivial,⟨⟨rfl,rfl⟩,⟨bD (by omega),rfl⟩,trivial⟩,⟨rfl,nP⟩,trivial⟩
      ·
       rw[ht]at hnx;have htest:=zh huk x.2;rw[←hh]at htest
       conv=>whnf
       refine aI (fun q=>by have q:(x.1==1)=true:=q;rw[ht]at q;cases q) (fun _=> ?_)
       conv=>whnf
       refine aI hih ?_;rcases Bool.eq_false_or_eq_true (gF (eH m.1 j (bQ m.1 (eP m) j) k).2 x.2)with hkv|hkv
       ·
        rw[hkv]at hnx htest;have hgt:elt (dflt aR) (dO (eH m.1 j (bQ m.1 (eP m) j) k).2 m.1.length) x.2=dI (0,0) (eH m.1 j (bQ m.1 (eP m) j) k).2 x.2:=by rw[hh];unfold rM;rw[hkv];rfl
        have hnx:eH m.1 j (bQ m.1 (eP m) j) (k+1)=(gG (eH m.1 j (bQ m.1 (eP m) j) k).1 ((elt (0:Int) (dZ m.1 m.1.length) (j:Nat),((k+1:Nat):Int))) (elt (dflt aR) (dO (eH m.1 j (bQ m.1 (eP m) j) k).2 m.1.length) x.2),(eH m.1 j (bQ m.1 (eP m) j) k).2):=by rw[hgt];exact hnx
        conv=>whnf
        refine aI (fun _=> ?_) (fun q=>by have q:decide ((0:Int)≤(elt (dflt aR) (dO (eH m.1 j (bQ m.1 (eP m) j) k).2 m.1.length) x.2).1)=false:=q;rw[htest]at q;cases q)
        conv=>whnf
        refine aI hih ?_
        conv=>whnf
        refine Or.inr (eI _ (eI _ (aI (Ck (eH m.1 j (bQ m.1 (eP m) j) k).1 [] ((elt (0:Int) (dZ m.1 m.1.length) (j:Nat),((k+1:Nat):Int))) (elt (dflt aR) (dO (eH m.1 j (bQ m.1 (eP m) j) k).2 m.1.length) x.2) (huk.port hpk) (by rw[hgt];exact huk.port (huk.kv _ hkv))) ?_)))
        conv=>whnf
        refine aI (by kernel_rfl) ?_;refine aM (k+1) hklt ?_ (show(bA (aj m.1 (j:Nat))).length-(k+1)<(bA (aj m.1 (j:Nat))).length-k by omega);rw[hnx];exact Go.Tr.hd [] rfl (aI ⟨bD (by omega),rfl⟩ (aI rfl (aI rfl trivial))) ⟨trivial,⟨rfl,trivial⟩,trivial,⟨rfl,trivial⟩,⟨rfl,nP⟩,⟨rfl,nP⟩,⟨rfl,nP⟩,trivial,⟨⟨rfl,rfl⟩,⟨bD (by omega),rfl⟩,trivial⟩,⟨rfl,nP⟩,trivial⟩
       ·
        rw[hkv]at hnx htest;have hnx:eH m.1 j (bQ m.1 (eP m) j) (k+1)=((eH m.1 j (bQ m.1 (eP m) j) k).1,gW (eH m.1 j (bQ m.1 (eP m) j) k).2 x.2 ((elt (0:Int) (dZ m.1 m.1.length) (j:Nat),((k+1:Nat):Int)))):=hnx
        conv=>whnf
        refine aI (fun q=>by have q:decide ((0:Int)≤(elt (dflt aR) (dO (eH m.1 j (bQ m.1 (eP m) j) k).2 m.1.length) x.2).1)=true:=q;rw[htest]at q;cases q) (fun _=> ?_)
        conv=>whnf
        refine aI hih ?_;refine aM (k+1) hklt ?_ (show(bA (aj m.1 (j:Nat))).length-(k+1)<(bA (aj m.1 (j:Nat))).length-k by omega);rw[hnx];exact Go.Tr.hd [] rfl (aI ⟨bD (by omega),rfl⟩ (aI rfl (aI rfl trivial))) ⟨trivial,⟨rfl,trivial⟩,trivial,⟨rfl,trivial⟩,⟨rfl,nP⟩,⟨rfl,nP⟩,⟨Ch _ hin.1 _,nP⟩,trivial,⟨⟨rfl,rfl⟩,⟨bD (by omega),rfl⟩,trivial⟩,⟨rfl,nP⟩,trivial⟩
     ·have hge:(bA (aj m.1 (j:Nat))).length≤k:=dR q2;have hke:k=(bA (aj m.1 (j:Nat))).length:=by omega
      refine aM (j+2) (show j+2≤m.1.length+1 by omega) ?_ (show m.1.length+1-(j+2)<m.1.length+1-(j+1) by omega);have hst:Ol m (j+2)=eH m.1 j (bQ m.1 (eP m) j) k:=by show bQ m.1 (eP m) (j+1)=_;rw[bQ,haB,hke];rfl
      rw[hst];exact Go.Tr.hd [] rfl (aI ⟨bD (by omega),rfl⟩ (aI rfl (aI rfl trivial))) ⟨trivial,⟨rfl,trivial⟩,trivial,⟨rfl,trivial⟩,⟨rfl,nP⟩,⟨rfl,nP⟩,⟨rfl,nP⟩,trivial⟩
    ·have htb:(bif decide ((0:Int)≤(j:Nat))then !aZ (aj m.1 (j:Nat)).1 else false)=true:=by rw[hd0,haB];rfl
     conv=>whnf
     refine aI (fun _=> ?_) (fun q=>by have q:(bif decide ((0:Int)≤(j:Nat))then !aZ (aj m.1 (j:Nat)).1 else false)=false:=q;rw[htb]at q;cases q);refine aM (j+2) (show j+2≤m.1.length+1 by omega) ?_ (show m.1.length+1-(j+2)<m.1.length+1-(j+1) by omega);have hst:Ol m (j+2)=Ol m (j+1):=by show bQ m.1 (eP m) (j+1)=bQ m.1 (eP m) j;rw[bQ,haB];rfl
     rw[hst];exact Go.Tr.hd [] rfl (aI ⟨bD (by omega),rfl⟩ (aI rfl (aI rfl trivial))) ⟨trivial,⟨rfl,trivial⟩,trivial,⟨rfl,trivial⟩,⟨rfl,nP⟩,⟨rfl,nP⟩,⟨rfl,nP⟩,trivial⟩
   ·have hge:m.1.length≤j:=dR q1;have hje:j=m.1.length:=by omega
    subst hje;have hur:=rY m;have hui:=hur.FT m.1.length (Nat.le_refl _);refine lp Nat (fun k=>[(14,.int .i64 (k:Nat)),(3,.sl 20001)]) (fun k=>[Nr,.bY 4 34 [.sl 20000],.row 20000 105 5 aL (mO m.1 m.2.2.2 (bQ m.1 (eP m) m.1.length).1 k) [],.row 20001 2 1 (.int .i64) (dZ m.1 m.1.length) []]) (fun k=>m.2.2.2.length-k) (fun k=>k≤m.2.2.2.length) 0 (Nat.zero_le _) ?_ ?_
    ·exact Go.Tr.hd [] rfl (aI ⟨rfl,rfl⟩ (aI rfl trivial)) ⟨trivial,⟨rfl,trivial⟩,trivial,⟨rfl,trivial⟩,⟨rfl,nP⟩,⟨rfl,nP⟩,trivial⟩
    intro k hk;have hk:k≤m.2.2.2.length:=hk;have huk:=hui.lW m.2.2.2 k;refine aI (fun q2=> ?_) (fun q2=> ?_)
    ·have hklt:k<m.2.2.2.length:=dX q2;have hrd:=h.lW (m.2.2.2.getD k (0,0)) (by rw[List.getD_eq_getElem?_getD,List.getElem?_eq_getElem hklt];exact List.getElem_mem hklt);have hrl:=hs.lW
     have hg:∀a:Int,(0≤a∧a<(m.1.length:Nat)∧aZ (aj m.1 a).1=true)→elt (0:Int) (dZ m.1 m.1.length) a=vo m.1 a∧bq (bI m.1 m.1.length) (vo m.1 a,0):=fun a ⟨h0,h1,h2⟩=>by
      obtain⟨i,rfl⟩:∃i:Nat,a=(i:Nat):=⟨a.toNat,by omega⟩;exact⟨zO m.1 h0 h1,pU (k:=0) (by omega) h2 (Nat.zero_le _)⟩
     obtain⟨g1,p1⟩:=hg _ hrd.1;obtain⟨g2,p2⟩:=hg _ hrd.2;have hkx:(0:Int)≤(k:Nat)∧((k:Nat):Int)<(m.2.2.2.length:Nat):=by omega
     have hx1:(0:Int)≤(m.2.2.2.getD k (0,0)).1∧(m.2.2.2.getD k (0,0)).1<((dZ m.1 m.1.length).length:Nat):=by rw[pG];exact⟨hrd.1.1,hrd.1.2.1⟩
     have hx2:(0:Int)≤(m.2.2.2.getD k (0,0)).2∧(m.2.2.2.getD k (0,0)).2<((dZ m.1 m.1.length).length:Nat):=by rw[pG];exact⟨hrd.2.1,hrd.2.2.1⟩
     refine aI hkx ?_;refine aI hx1 ?_;refine Or.inl (eI _ (aI (Fx _ _) ?_));refine aI hkx ?_;refine aI hx2 ?_;refine Or.inl (eI _ (aI (Fx _ _) ?_));refine Or.inr (eI _ (eI _ (aI (Ck (mO m.1 m.2.2.2 (bQ m.1 (eP m) m.1.length).1 k) [] (elt (0:Int) (dZ m.1 m.1.length) (m.2.2.2.getD k (0,0)).1,0) (elt (0:Int) (dZ m.1 m.1.length) (m.2.2.2.getD k (0,0)).2,0) (by rw[g1];exact huk.port p1) (by rw[g2];exact huk.port p2)) ?_)));refine aI (by kernel_rfl) ?_;refine aM (k+1) hklt ?_ (show m.2.2.2.length-(k+1)<m.2.2.2.length-k by omega);have hst:mO m.1 m.2.2.2 (bQ m.1 (eP m) m.1.length).1 (k+1)=gG (mO m.1 m.2.2.2 (bQ m.1 (eP m) m.1.length).1 k) (elt (0:Int) (dZ m.1 m.1.length) (m.2.2.2.getD k (0,0)).1,0) (elt (0:Int) (dZ m.1 m.1.length) (m.2.2.2.getD k (0,0)).2,0):=by rw[g1,g2];rfl
     rw[hst];exact Go.Tr.hd [] rfl (aI ⟨bD (by omega),rfl⟩ (aI rfl trivial)) ⟨trivial,⟨rfl,trivial⟩,trivial,⟨rfl,trivial⟩,⟨rfl,nP⟩,⟨rfl,nP⟩,trivial⟩
    ·have hge:m.2.2.2.length≤k:=dR q2;have hke:k=m.2.2.2.length:=by omega
     subst hke;refine fin [(10000,20000)] (aI rfl ?_);exact⟨⟨rfl,nP⟩,trivial⟩
end Go.Proofs.YtgiceoidjipgmaaGreat
