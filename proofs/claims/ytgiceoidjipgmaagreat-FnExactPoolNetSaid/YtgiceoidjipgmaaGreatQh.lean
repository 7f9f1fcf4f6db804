
/- A pool's memory: its net, by the program: all of it. -/
import Derived.Test.YtgiceoidjipgmaaGreatShort
import Derived.Test.YtgiceoidjipgmaaGreatQg
set_option linter.unusedSimpArgs false
set_option linter.unusedVariables false
namespace Go.Tr
open Go Go.RowKit
theorem wJ(kv:List (Int×Int))(i j:Int)(x:Int):dI 0 (gW kv i x) j=if i=j then x else dI 0 kv j:=by
 induction kv with
 |nil=>
  show(bif i==j then x else 0)=_
  by_cases h:i=j
  ·subst h;simp
  ·rw[if_neg h,beq_eq_false_iff_ne.2 h];rfl
 |cons e kv ih=>
  obtain⟨k,y⟩:=e;unfold gW;cases hk:k==i with
  |true=>
   have:=eq_of_beq hk;subst this;show(bif k==j then x else dI 0 kv j)=if k=j then x else(bif k==j then y else dI 0 kv j)
   by_cases h:k=j
   ·subst h;simp
   ·rw[if_neg h,beq_eq_false_iff_ne.2 h];rfl
  |false=>
   show(bif k==j then y else dI 0 (gW kv i x) j)=if i=j then x else(bif k==j then y else dI 0 kv j)
   rw[ih]
   by_cases h:i=j
   ·subst h;rw[hk,if_pos rfl,if_pos rfl];rfl
   ·rw[if_neg h,if_neg h]
def kr(xs:List ah):Nat→List (Int×Int)
 |0=>[]
 |i+1=>bif aZ (aj xs (i:Nat)).1 then gW (kr xs i) (i:Nat) (vo xs (i:Nat))else kr xs i
theorem xJ(xs:List ah):∀(n:Nat) {i:Nat},i<n→aZ (aj xs (i:Nat)).1=true→dI 0 (kr xs n) (i:Nat)=vo xs (i:Nat)
 |0,i,h,_=>by omega
 |n+1,i,h,ha=>by
  rw[kr];rcases Nat.lt_or_ge i n with h1|h1
  ·cases hn:aZ (aj xs (n:Nat)).1 with
   |true=>
    show dI 0 (gW (kr xs n) (n:Nat) (vo xs (n:Nat))) (i:Nat)=_;rw[wJ,if_neg (by omega)];exact xJ xs n h1 ha
   |false=>exact xJ xs n h1 ha
  ·have:i=n:=by omega
   subst this;rw[ha];show dI 0 (gW (kr xs i) (i:Nat) (vo xs (i:Nat))) (i:Nat)=_;rw[wJ,if_pos rfl]
end Go.Tr
namespace Go.Proofs.YtgiceoidjipgmaaGreat
open Go Go.RowKit Go.Proofs Go.Tr
theorem MK:aF Tryz.prog 106 [] (vP (0,0)):=by
 refine aF.intro (nt:=2) aQ mixed (by kernel_rfl) Tryz.func106 rfl rfl rfl rfl rfl ?_;exact rfl
theorem Ld:dA Tryz.prog 51=true:=by kernel_rfl
abbrev cP(m:bE):Tok:=.bY 1 81 [.rp gK m]
abbrev cZ:Tok:=.bY 2 34 [.raw (.slice none 0 0)]
set_option maxHeartbeats 4000000 in
set_option maxRecDepth 100000 in
theorem PV{xs:List ah}(m:bE)(h:lY xs m)(hs:qQ m)(hl:m.1.length≤1500):aC Tryz.prog 51 [.rp gK m] [] (.agg [.sl 10000]) [.row 10000 105 5 aL (jG m) []]:=by
 refine aC.intro (nt:=120) aQ mixed Ld Tryz.func51 rfl rfl rfl rfl rfl rfl ?_;refine aI ⟨by decide,by decide,by decide⟩ ?_;refine lp Nat (fun i=>[(25,.int .i64 (i:Nat))]) (fun i=>[cP m,cZ,.bY 3 34 [.sl 20000],.row 20000 105 5 aL (bI m.1 i) [],.bY 4 157 [.mp 19],.map 19 (.int .i64) (kr m.1 i)]) (fun i=>m.1.length-i) (fun i=>i≤m.1.length) 0 (Nat.zero_le _) ?_ ?_
 ·refine Go.Tr.hd [(20000,17)] rfl (aI ⟨rfl,rfl⟩ trivial) ?_;exact⟨trivial,⟨rfl,trivial⟩,trivial,⟨rfl,trivial⟩,trivial,⟨rfl,trivial⟩,⟨rfl,nP⟩,trivial,⟨rfl,trivial⟩,rfl,trivial⟩
 intro i hi;refine aI (fun q1=> ?_) (fun q1=> ?_)
 ·have hlt:i<m.1.length:=dX q1;have hal:=zL m.1 i;have hwl:=hs.words _ (bR hlt);refine aI (show(0:Int)≤(i:Nat)∧((i:Nat):Int)<(m.1.length:Nat) by omega) ?_;refine Or.inl (eI _ (aI (zi (aj m.1 (i:Nat))) ?_));have hw1:IntKind.i64.wrap (((bA (aj m.1 (i:Nat))).length:Int)+1)=(((bA (aj m.1 (i:Nat))).length+1:Nat):Int):=bD (by unfold bA;omega);cases ha:aZ (aj m.1 (i:Nat)).1 with
  |true=>
   refine aI (fun _=> ?_) (fun q=>by cases q);refine Or.inr (eI _ (eI _ (aI (ED (aj m.1 (i:Nat)).2.2.2.1 (by have:=hs.data _ (bR hlt);omega)) ?_)));refine aI (by show 0≤IntKind.i64.wrap (((bA (aj m.1 (i:Nat))).length:Int)+1)∧_≤_∧IntKind.i64.wrap (((bA (aj m.1 (i:Nat))).length:Int)+1)≤_;rw[hw1];unfold bA;omega) ?_;refine aI (by show(bI m.1 i).length+1≤_;omega) ?_;refine aI (by kernel_rfl) ?_;refine aM (i+1) hlt ?_ (show m.1.length-(i+1)<m.1.length-i by omega);refine Go.Tr.hd [(20000,55)] rfl (aI ⟨bD (by omega),rfl⟩ trivial) ?_
   refine⟨trivial,⟨rfl,trivial⟩,trivial,⟨rfl,trivial⟩,trivial,⟨rfl,trivial⟩,⟨?_,nP⟩,trivial,⟨rfl,trivial⟩,?_,trivial⟩
   ·show bI m.1 i++[((aj m.1 (i:Nat)).1,(aj m.1 (i:Nat)).2.1,(aj m.1 (i:Nat)).2.2.1,(aj m.1 (i:Nat)).2.2.2.1,List.replicate (IntKind.i64.wrap (((bA (aj m.1 (i:Nat))).length:Int)+1)).toNat ((0,0):bX))]=bI m.1 (i+1);rw[hw1,Int.toNat_natCast,bI,ha];rfl
   ·show gW (kr m.1 i) (i:Nat) (((bI m.1 i).length:Nat):Int)=kr m.1 (i+1);rw[kr,ha];rfl
  |false=>
   refine aI (fun q=>by cases q) (fun _=> ?_);refine aM (i+1) hlt ?_ (show m.1.length-(i+1)<m.1.length-i by omega);refine Go.Tr.hd [] rfl (aI ⟨bD (by omega),rfl⟩ trivial) ?_;refine⟨trivial,⟨rfl,trivial⟩,trivial,⟨rfl,trivial⟩,trivial,⟨rfl,trivial⟩,⟨?_,nP⟩,trivial,⟨rfl,trivial⟩,?_,trivial⟩
   ·show bI m.1 i=bI m.1 (i+1);rw[bI,ha];rfl
   ·show kr m.1 i=kr m.1 (i+1);rw[kr,ha];rfl
 ·have hge:m.1.length≤i:=dR q1;have hie:i=m.1.length:=by have:i≤m.1.length:=hi;omega
  subst hie;have htv:=fun(j:Nat) (hj:j<m.1.length) ha=>xJ m.1 m.1.length hj ha
  have hu0:=qP.start m.1;have hp0:=tN m.1 m.1.length;refine Or.inl (eI _ (aI MK ?_));refine Or.inr (eI _ (eI _ (aI (NS m h (by omega) (bI m.1 m.1.length,[]) [] (kr m.1 m.1.length) htv hu0 (0,0) hp0 m.2.2.1 h.root) ?_)));refine aI (by kernel_rfl) ?_;have hur:=rY m;refine lp Nat (fun i=>[(72,.int .i64 (i:Nat))]) (fun i=>[cP m,cZ,.bY 3 34 [.sl 20000],.row 20000 105 5 aL (bQ m.1 (eP m) i).1 [],.bY 4 157 [.mp 19],.map 19 (.int .i64) (kr m.1 m.1.length),.bY 7 158 [.mp 58],.map 58 aR (bQ m.1 (eP m) i).2]) (fun i=>m.1.length-i) (fun i=>i≤m.1.length) 0 (Nat.zero_le _) ?_ ?_
  ·refine Go.Tr.hd [] rfl (aI ⟨rfl,rfl⟩ trivial) ?_;exact⟨trivial,⟨rfl,trivial⟩,trivial,⟨rfl,trivial⟩,trivial,⟨rfl,trivial⟩,⟨rfl,nP⟩,trivial,⟨rfl,trivial⟩,rfl,trivial,⟨rfl,trivial⟩,rfl,trivial⟩
  intro i hi;have hi:i≤m.1.length:=hi;have hui:=hur.FT i hi;refine aI (fun q1=> ?_) (fun q1=> ?_)
  ·have hlt:i<m.1.length:=dX q1;have hwl:=hs.words _ (bR hlt);have hwl':(bA (aj m.1 (i:Nat))).length≤1048576:=hwl;refine aI (show(0:Int)≤(i:Nat)∧((i:Nat):Int)<(m.1.length:Nat) by omega) ?_;refine Or.inl (eI _ (aI (zi (aj m.1 (i:Nat))) ?_));cases ha:aZ (aj m.1 (i:Nat)).1 with
   |false=>
    refine aI (fun q=>by cases q) (fun _=> ?_);refine aM (i+1) hlt ?_ (show m.1.length-(i+1)<m.1.length-i by omega);rw[show bQ m.1 (eP m) (i+1)=bQ m.1 (eP m) i by rw[bQ,ha];rfl];refine Go.Tr.hd [] rfl (aI ⟨bD (by omega),rfl⟩ trivial) ?_;exact⟨trivial,⟨rfl,trivial⟩,trivial,⟨rfl,trivial⟩,trivial,⟨rfl,trivial⟩,⟨rfl,nP⟩,trivial,⟨rfl,trivial⟩,rfl,trivial,⟨rfl,trivial⟩,rfl,trivial⟩
   |true=>
    refine aI (fun _=> ?_) (fun q=>by cases q);refine lp Nat (fun k=>[(82,.int .i64 (k:Nat))]) (fun k=>[cP m,cZ,.bY 3 34 [.sl 20000],.row 20000 105 5 aL (eH m.1 i (bQ m.1 (eP m) i) k).1 [],.bY 4 157 [.mp 19],.map 19 (.int .i64) (kr m.1 m.1.length),.bY 7 158 [.mp 58],.map 58 aR (eH m.1 i (bQ m.1 (eP m) i) k).2]) (fun k=>(bA (aj m.1 (i:Nat))).length-k) (fun k=>k≤(bA (aj m.1 (i:Nat))).length) 0 (Nat.zero_le _) ?_ ?_
    ·refine Go.Tr.hd [] rfl (aI ⟨rfl,rfl⟩ trivial) ?_;exact⟨trivial,⟨rfl,trivial⟩,trivial,⟨rfl,trivial⟩,trivial,⟨rfl,trivial⟩,⟨rfl,nP⟩,trivial,⟨rfl,trivial⟩,rfl,trivial,⟨rfl,trivial⟩,rfl,trivial⟩
    intro k hk;have hk:k≤(bA (aj m.1 (i:Nat))).length:=hk;have huk:=hui.puts hlt ha k hk;refine aI (fun q2=> ?_) (fun q2=> ?_)
    ·have hklt:k<(bA (aj m.1 (i:Nat))).length:=dX q2;have hwk:IntKind.i64.wrap (((k:Nat):Int)+1)=((k+1:Nat):Int):=bD (by omega);have hpp:((dI 0 (kr m.1 m.1.length) (i:Nat),IntKind.i64.wrap (((k:Nat):Int)+1)):bX)=(vo m.1 (i:Nat),((k+1:Nat):Int)):=by rw[hwk,htv i hlt ha]
     have hword:bH m.1 ((bA (aj m.1 (i:Nat))).getD k (0,0))=true:=h.words _ (bR hlt) _ (by rw[List.getD_eq_getElem?_getD,List.getElem?_eq_getElem hklt];exact List.getElem_mem hklt);refine aI (show(0:Int)≤(k:Nat)∧((k:Nat):Int)<((bA (aj m.1 (i:Nat))).length:Nat) by omega) ?_;have hput:=NS m h (by omega) (eH m.1 i (bQ m.1 (eP m) i) k) [] (kr m.1 m.1.length) htv huk (dI 0 (kr m.1 m.1.length) (i:Nat),IntKind.i64.wrap (((k:Nat):Int)+1)) (by rw[hpp];exact pU hlt ha hklt) _ hword;refine Or.inr (eI _ (eI _ (aI hput ?_)))
     refine aM (k+1) hklt ?_ (show(bA (aj m.1 (i:Nat))).length-(k+1)<(bA (aj m.1 (i:Nat))).length-k by omega);rw[show eH m.1 i (bQ m.1 (eP m) i) (k+1)=rX m.1 (eH m.1 i (bQ m.1 (eP m) i) k) (dI 0 (kr m.1 m.1.length) (i:Nat),IntKind.i64.wrap (((k:Nat):Int)+1)) ((bA (aj m.1 (i:Nat))).getD k (0,0)) by rw[hpp];rfl];refine Go.Tr.hd [] rfl (aI ⟨hwk,rfl⟩ trivial) ?_;exact⟨trivial,⟨rfl,trivial⟩,trivial,⟨rfl,trivial⟩,trivial,⟨rfl,trivial⟩,⟨rfl,nP⟩,trivial,⟨rfl,trivial⟩,rfl,trivial,⟨rfl,trivial⟩,rfl,trivial⟩
    ·have hge:(bA (aj m.1 (i:Nat))).length≤k:=dR q2;have hke:k=(bA (aj m.1 (i:Nat))).length:=by omega
     refine aM (i+1) hlt ?_ (show m.1.length-(i+1)<m.1.length-i by omega);rw[show bQ m.1 (eP m) (i+1)=eH m.1 i (bQ m.1 (eP m) i) k by rw[bQ,ha,hke];rfl];refine Go.Tr.hd [] rfl (aI ⟨bD (by omega),rfl⟩ trivial) ?_;exact⟨trivial,⟨rfl,trivial⟩,trivial,⟨rfl,trivial⟩,trivial,⟨rfl,trivial⟩,⟨rfl,nP⟩,trivial,⟨rfl,trivial⟩,rfl,trivial,⟨rfl,trivial⟩,rfl,trivial⟩
  ·have hge:m.1.length≤i:=dR q1;have hie:i=m.1.length:=by omega
   subst hie;refine lp Nat (fun k=>[(103,.int .i64 (k:Nat))]) (fun k=>[cP m,cZ,.bY 3 34 [.sl 20000],.row 20000 105 5 aL (mO m.1 m.2.2.2 (bQ m.1 (eP m) m.1.length).1 k) [],.bY 4 157 [.mp 19],.map 19 (.int .i64) (kr m.1 m.1.length)]) (fun k=>m.2.2.2.length-k) (fun k=>k≤m.2.2.2.length) 0 (Nat.zero_le _) ?_ ?_
   ·refine Go.Tr.hd [] rfl (aI ⟨rfl,rfl⟩ trivial) ?_;exact⟨trivial,⟨rfl,trivial⟩,trivial,⟨rfl,trivial⟩,trivial,⟨rfl,trivial⟩,⟨rfl,nP⟩,trivial,⟨rfl,trivial⟩,rfl,trivial⟩
   intro k hk;have hk:k≤m.2.2.2.length:=hk;have huk:=hui.lW m.2.2.2 k;refine aI (fun q2=> ?_) (fun q2=> ?_)
   ·have hklt:k<m.2.2.2.length:=dX q2;have hrd:=h.lW (m.2.2.2.getD k (0,0)) (by rw[List.getD_eq_getElem?_getD,List.getElem?_eq_getElem hklt];exact List.getElem_mem hklt);have hrl:=hs.lW
    have hg:∀a:Int,(0≤a∧a<(m.1.length:Nat)∧aZ (aj m.1 a).1=true)→dI 0 (kr m.1 m.1.length) a=vo m.1 a∧bq (bI m.1 m.1.length) (vo m.1 a,0):=fun a ⟨h0,h1,h2⟩=>by
     obtain⟨j,rfl⟩:∃j:Nat,a=(j:Nat):=⟨a.toNat,by omega⟩;exact⟨htv j (by omega) h2,pU (k:=0) (by omega) h2 (Nat.zero_le _)⟩
    obtain⟨g1,p1⟩:=hg _ hrd.1;obtain⟨g2,p2⟩:=hg _ hrd.2;refine aI (show(0:Int)≤(k:Nat)∧((k:Nat):Int)<(m.2.2.2.length:Nat) by omega) ?_;refine Or.inr (eI _ (eI _ (aI (DI (mO m.1 m.2.2.2 (bQ m.1 (eP m) m.1.length).1 k) [] (dI 0 (kr m.1 m.1.length) (m.2.2.2.getD k (0,0)).1,0) (dI 0 (kr m.1 m.1.length) (m.2.2.2.getD k (0,0)).2,0) (by rw[g1];exact huk.port p1) (by rw[g2];exact huk.port p2)) ?_)));refine aM (k+1) hklt ?_ (show m.2.2.2.length-(k+1)<m.2.2.2.length-k by omega);rw[show mO m.1 m.2.2.2 (bQ m.1 (eP m) m.1.length).1 (k+1)=gG (mO m.1 m.2.2.2 (bQ m.1 (eP m) m.1.length).1 k) (dI 0 (kr m.1 m.1.length) (m.2.2.2.getD k (0,0)).1,0) (dI 0 (kr m.1 m.1.length) (m.2.2.2.getD k (0,0)).2,0) by rw[g1,g2];rfl]
    refine Go.Tr.hd [] rfl (aI ⟨bD (by omega),rfl⟩ trivial) ?_;exact⟨trivial,⟨rfl,trivial⟩,trivial,⟨rfl,trivial⟩,trivial,⟨rfl,trivial⟩,⟨rfl,nP⟩,trivial,⟨rfl,trivial⟩,rfl,trivial⟩
   ·have hge:m.2.2.2.length≤k:=dR q2;have hke:k=m.2.2.2.length:=by omega
    subst hke;refine fin [(10000,20000)] (aI rfl ?_);exact⟨⟨rfl,nP⟩,trivial⟩
end Go.Proofs.YtgiceoidjipgmaaGreat
