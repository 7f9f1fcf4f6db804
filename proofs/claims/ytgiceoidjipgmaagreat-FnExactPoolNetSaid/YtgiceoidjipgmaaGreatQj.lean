
/- PoolNet, by the program. -/
import Derived.Test.YtgiceoidjipgmaaGreatShort
import Derived.Test.YtgiceoidjipgmaaGreatQi
set_option linter.unusedSimpArgs false
set_option linter.unusedVariables false
namespace Go.Tr
open Go Go.RowKit
theorem DK{p:fA}(h:GI p)(i:Nat):∀l∈nk p.2.1 i,bH p.1.1 l.1=true∧bH p.1.1 l.2=true:=fun l hl=>by
 obtain⟨w,hw,hl⟩:=List.mem_flatMap.1 hl;exact(h.links w (List.mem_of_mem_take hw)).2 l hl
theorem Cm{p:fA}(h:GI p)(i:Nat):(nk p.2.1 i).length≤6000:=by
 have h1:∀ws:List dn,(∀w∈ws,w.2.2.2.1.length≤1500)→(ws.flatMap fun w=>w.2.2.2.1).length≤1500*ws.length:=by
  intro ws
  induction ws with
  |nil=>intro _;simp
  |cons w ws ih=>
   intro hw;rw[List.flatMap_cons,List.length_append,List.length_cons];have:=hw w (by simp);have:=ih fun x hx=>hw x (by simp[hx])
   omega
 have:=h1 (p.2.1.take i) fun w hw=>(h.links w (List.mem_of_mem_take hw)).1
 have hws:=h.ws;have:(p.2.1.take i).length≤4:=by rw[List.length_take];omega
 unfold nk;omega
def iA(p:fA)(i:Nat):bE:=uQ (Im p) (nk p.2.1 i)
def eZ(p:fA)(i k:Nat):bE:=uQ (iA p i) ((elt (dflt aV) p.2.1 (i:Nat)).2.2.2.1.take k)
def gB(p:fA):bE:=iA p p.2.1.length
theorem G6(m:bE)(a b:List (ay×ay)):uQ m (a++b)=uQ (uQ m a) b:=by unfold uQ;rw[List.foldl_append]
theorem Bc{ws:List dn}{i:Nat}(h:i<ws.length):elt (dflt aV) ws (i:Nat)∈ws:=by
 show ws.getD ((i:Nat):Int).toNat _∈ws;rw[Int.toNat_natCast,List.getD_eq_getElem?_getD,List.getElem?_eq_getElem h];exact List.getElem_mem h
theorem qw(p:fA){i:Nat}(h:i<p.2.1.length):iA p (i+1)=eZ p i (elt (dflt aV) p.2.1 (i:Nat)).2.2.2.1.length:=by
 unfold iA eZ nk;rw[List.take_add_one,List.flatMap_append,G6,List.take_of_length_le (Nat.le_refl _),List.getElem?_eq_getElem h]
 have:elt (dflt aV) p.2.1 (i:Nat)=p.2.1[i]:=by
  show p.2.1.getD ((i:Nat):Int).toNat _=_;rw[Int.toNat_natCast,List.getD_eq_getElem?_getD,List.getElem?_eq_getElem h];rfl
 rw[this];simp[iA,nk]
theorem ru{p:fA}(h:GI p)(i:Nat):lY p.1.1 (iA p i)∧(iA p i).2.2.2.length≤7500:=by
 refine⟨zT h.ok (DK h i),?_⟩;have h1:=sO (nk p.2.1 i) (Im p);have h2:=Cm h i;have h3:=h.lW;have e:(Im p).2.2.2=dY p.2.1:=rfl;unfold iA;rw[e]at h1;omega
theorem sP{p:fA}(h:GI p){i:Nat}(hi:i<p.2.1.length)(k:Nat):lY p.1.1 (eZ p i k)∧(eZ p i k).2.2.2.length≤9000:=by
 obtain⟨h1,h2⟩:=ru h i;have hw:=h.links _ (Bc hi);refine⟨zT h1 fun l hl=>hw.2 l (List.mem_of_mem_take hl),?_⟩;have h3:=sO ((elt (dflt aV) p.2.1 (i:Nat)).2.2.2.1.take k) (iA p i);have h4:((elt (dflt aV) p.2.1 (i:Nat)).2.2.2.1.take k).length≤1500:=by rw[List.length_take];have:=hw.1;omega
 unfold eZ;omega
theorem oG(p:fA){i k:Nat}(hk:k<(elt (dflt aV) p.2.1 (i:Nat)).2.2.2.1.length):eZ p i (k+1)=vV (eZ p i k) ((elt (dflt aV) p.2.1 (i:Nat)).2.2.2.1.getD k ((0,0),(0,0))).1 ((elt (dflt aV) p.2.1 (i:Nat)).2.2.2.1.getD k ((0,0),(0,0))).2:=FU _ hk
theorem Mj{xs:List ah}{m:bE}(h:lY xs m)(hn:xs.length≤1500)(hr:m.2.2.2.length≤9000):m.1.length≤1500∧(∀c∈m.1,c.2.2.2.1.length≤1048576)∧(∀c∈m.1,c.2.2.2.2.length≤1048576):=⟨by rw[h.same.1];exact hn,h.data,h.len⟩
def je(p:fA):List ah×Int:=bif decide (600<(jG (gB p)).length)then([],4)else(jG (gB p),0)
def eu(p:fA):List ah×Int:=bif iL p then je p else([],1)
end Go.Tr
namespace Go.Proofs.YtgiceoidjipgmaaGreat
open Go Go.RowKit Go.Proofs Go.Tr
theorem Lb{xs:List ah}{m:bE}(h:lY xs m)(hn:xs.length≤1500)(hr:m.2.2.2.length≤9000):qQ m:=by
 obtain⟨h1,h2,h3⟩:=Mj h hn hr;exact⟨by omega,h2,h3,by omega⟩
def Bl(f:Nat)(args:List SV)(R:List ah×Int):Prop:=
 (R.1=[]∧aC Tryz.prog f args [] (.tup [.agg [.raw (.slice none 0 0)],.int .i64 R.2]) [])∨aC Tryz.prog f args [] (.tup [.agg [.sl 10000],.int .i64 R.2]) [.row 10000 105 5 aL R.1 []]
theorem Mw{m:bE}{xs:List ah}(h:lY xs m)(hs:qQ m)(hl:m.1.length≤1500):aC Tryz.prog 51 [.ptr 10000 0] (CY m []) (.agg [.sl 10003]) ([.row 10003 105 5 aL (jG m) []]++CY m []):=
 aC.Cv (ts1:=[.row 10000 105 5 aL (jG m) []]) (r1:=.agg [.sl 10000]) aQ [81] Ld (PV m h hs hl) rfl rfl rfl
theorem AJ:dA Tryz.prog 20=true:=by kernel_rfl
set_option maxHeartbeats 4000000 in
set_option maxRecDepth 100000 in
theorem Py(p:fA)(h:GI p)(hsm:om p):Bl 20 [.rp qm p] (je p):=by
 have hc0:=h.cells;have hw4:=h.ws;have hm0:qQ p.1:=⟨by omega,h.ok.data,h.ok.len,by rw[h.nored];simp⟩;have hrl:(dY p.2.1).length≤16777216:=by have:=h.lW;omega
 obtain⟨ho,hor⟩:=ru h p.2.1.length;have hosm:=Lb ho hc0 (by omega);have hun:=Mw ho hosm (by rw[ho.same.1];exact hc0);cases hd:decide (((600:Nat):Int)<((jG (gB p)).length:Nat))with
 |true=>
  have hd':decide (600<(jG (gB p)).length)=true:=by rw[←hd,Bool.eq_iff_iff,decide_eq_true_eq,decide_eq_true_eq];omega
  rw[show je p=([],4) by unfold je;rw[hd'];rfl];refine Or.inl ⟨rfl,?_⟩;refine aC.intro (nt:=48) aQ mixed AJ Tryz.func20 rfl rfl rfl rfl rfl rfl ?_;refine Or.inr (eI _ (eI _ (aI (G9 p.1 hm0) ?_)));refine Or.inr (eI _ (eI _ (aI (I7 p hsm.workers hrl) ?_)));refine lp Nat (fun i=>[(23,.int .i64 (i:Nat))]) (fun i=>[.bY 2 34 [.raw (.slice none 0 0)],.bY 4 41 [.sl 20000,.int .i64 (iA p i).2.1,.int .i64 (iA p i).2.2.1.1,.int .i64 (iA p i).2.2.1.2,.sl 20001],.row 20000 123 5 aL (iA p i).1 [],.row 20001 127 2 aR (iA p i).2.2.2 []]) (fun i=>p.2.1.length-i) (fun i=>i≤p.2.1.length) 0 (Nat.zero_le _) ?_ ?_
  ·exact Go.Tr.hd [(20000,14),(20001,16)] rfl (aI ⟨rfl,rfl⟩ trivial) ⟨trivial,⟨rfl,trivial⟩,trivial,⟨rfl,⟨rfl,rfl⟩,⟨rfl,rfl⟩,⟨rfl,rfl⟩,rfl,trivial⟩,⟨rfl,nP⟩,⟨rfl,nP⟩,trivial⟩
  intro i hi;refine aI (fun q1=> ?_) (fun q1=> ?_)
  ·have hlt:i<p.2.1.length:=dX q1;refine aI (show(0:Int)≤(i:Nat)∧((i:Nat):Int)<(p.2.1.length:Nat) by omega) ?_;have hwk:=h.links _ (Bc hlt);refine lp Nat (fun k=>[(30,.int .i64 (k:Nat))]) (fun k=>[.bY 2 34 [.raw (.slice none 0 0)],.bY 4 41 [.sl 20000,.int .i64 (eZ p i k).2.1,.int .i64 (eZ p i k).2.2.1.1,.int .i64 (eZ p i k).2.2.1.2,.sl 20001],.row 20000 123 5 aL (eZ p i k).1 [],.row 20001 127 2 aR (eZ p i k).2.2.2 []]) (fun k=>(elt (dflt aV) p.2.1 (i:Nat)).2.2.2.1.length-k) (fun k=>k≤(elt (dflt aV) p.2.1 (i:Nat)).2.2.2.1.length) 0 (Nat.zero_le _) ?_ ?_
   ·exact Go.Tr.hd [] rfl (aI ⟨rfl,rfl⟩ trivial) ⟨trivial,⟨rfl,trivial⟩,trivial,⟨rfl,⟨rfl,rfl⟩,⟨rfl,rfl⟩,⟨rfl,rfl⟩,rfl,trivial⟩,⟨rfl,nP⟩,⟨rfl,nP⟩,trivial⟩
   intro k hk;have hk:k≤(elt (dflt aV) p.2.1 (i:Nat)).2.2.2.1.length:=hk;refine aI (fun q2=> ?_) (fun q2=> ?_)
   ·have hklt:k<(elt (dflt aV) p.2.1 (i:Nat)).2.2.2.1.length:=dX q2;obtain⟨hk1,hk2⟩:=sP h hlt k;have hkw:=hwk.2 ((elt (dflt aV) p.2.1 (i:Nat)).2.2.2.1.getD k ((0,0),(0,0))) (by rw[List.getD_eq_getElem?_getD,List.getElem?_eq_getElem hklt];exact List.getElem_mem hklt);refine aI (show(0:Int)≤(k:Nat)∧((k:Nat):Int)<((elt (dflt aV) p.2.1 (i:Nat)).2.2.2.1.length:Nat) by omega) ?_;refine Or.inr (eI _ (eI _ (aI (Nt (eZ p i k) [] _ _ hk1 hkw.1 hkw.2 (by omega)) ?_)));refine aM (k+1) hklt ?_ (show(elt (dflt aV) p.2.1 (i:Nat)).2.2.2.1.length-(k+1)<(elt (dflt aV) p.2.1 (i:Nat)).2.2.2.1.length-k by omega)
    rw[oG p hklt];exact Go.Tr.hd [(20001,38)] rfl (aI ⟨bD (by have:=hwk.1;omega),rfl⟩ trivial) ⟨trivial,⟨rfl,trivial⟩,trivial,⟨rfl,⟨rfl,rfl⟩,⟨rfl,rfl⟩,⟨rfl,rfl⟩,rfl,trivial⟩,⟨rfl,nP⟩,⟨rfl,nP⟩,trivial⟩
   ·have hge:=dR q2;have hke:k=(elt (dflt aV) p.2.1 (i:Nat)).2.2.2.1.length:=by have:(elt (dflt aV) p.2.1 (i:Nat)).2.2.2.1.length≤k:=hge;omega
    refine aM (i+1) hlt ?_ (show p.2.1.length-(i+1)<p.2.1.length-i by omega);rw[qw p hlt,←hke];exact Go.Tr.hd [] rfl (aI ⟨bD (by omega),rfl⟩ trivial) ⟨trivial,⟨rfl,trivial⟩,trivial,⟨rfl,⟨rfl,rfl⟩,⟨rfl,rfl⟩,⟨rfl,rfl⟩,rfl,trivial⟩,⟨rfl,nP⟩,⟨rfl,nP⟩,trivial⟩
  ·have hge:p.2.1.length≤i:=dR q1;have hie:i=p.2.1.length:=by have:i≤p.2.1.length:=hi;omega
   subst hie;refine Or.inr (eI _ (eI _ (aI hun ?_)));refine aI (fun _=> ?_) (fun q=>by have q:decide (((600:Nat):Int)<((jG (gB p)).length:Nat))=false:=q;rw[hd]at q;cases q);refine fin [] (aI rfl ?_);exact trivial
 |false=>
  have hd':decide (600<(jG (gB p)).length)=false:=by rw[←hd,Bool.eq_iff_iff,decide_eq_true_eq,decide_eq_true_eq];omega
  rw[show je p=(jG (gB p),0) by unfold je;rw[hd'];rfl];refine Or.inr ?_;refine aC.intro (nt:=48) aQ mixed AJ Tryz.func20 rfl rfl rfl rfl rfl rfl ?_;refine Or.inr (eI _ (eI _ (aI (G9 p.1 hm0) ?_)));refine Or.inr (eI _ (eI _ (aI (I7 p hsm.workers hrl) ?_)));refine lp Nat (fun i=>[(23,.int .i64 (i:Nat))]) (fun i=>[.bY 2 34 [.raw (.slice none 0 0)],.bY 4 41 [.sl 20000,.int .i64 (iA p i).2.1,.int .i64 (iA p i).2.2.1.1,.int .i64 (iA p i).2.2.1.2,.sl 20001],.row 20000 123 5 aL (iA p i).1 [],.row 20001 127 2 aR (iA p i).2.2.2 []]) (fun i=>p.2.1.length-i) (fun i=>i≤p.2.1.length) 0 (Nat.zero_le _) ?_ ?_
  ·exact Go.Tr.hd [(20000,14),(20001,16)] rfl (aI ⟨rfl,rfl⟩ trivial) ⟨trivial,⟨rfl,trivial⟩,trivial,⟨rfl,⟨rfl,rfl⟩,⟨rfl,rfl⟩,⟨rfl,rfl⟩,rfl,trivial⟩,⟨rfl,nP⟩,⟨rfl,nP⟩,trivial⟩
  intro i hi;refine aI (fun q1=> ?_) (fun q1=> ?_)
  ·have hlt:i<p.2.1.length:=dX q1;refine aI (show(0:Int)≤(i:Nat)∧((i:Nat):Int)<(p.2.1.length:Nat) by omega) ?_;have hwk:=h.links _ (Bc hlt);refine lp Nat (fun k=>[(30,.int .i64 (k:Nat))]) (fun k=>[.bY 2 34 [.raw (.slice none 0 0)],.bY 4 41 [.sl 20000,.int .i64 (eZ p i k).2.1,.int .i64 (eZ p i k).2.2.1.1,.int .i64 (eZ p i k).2.2.1.2,.sl 20001],.row 20000 123 5 aL (eZ p i k).1 [],.row 20001 127 2 aR (eZ p i k).2.2.2 []]) (fun k=>(elt (dflt aV) p.2.1 (i:Nat)).2.2.2.1.length-k) (fun k=>k≤(elt (dflt aV) p.2.1 (i:Nat)).2.2.2.1.length) 0 (Nat.zero_le _) ?_ ?_
   ·exact Go.Tr.hd [] rfl (aI ⟨rfl,rfl⟩ trivial) ⟨trivial,⟨rfl,trivial⟩,trivial,⟨rfl,⟨rfl,rfl⟩,⟨rfl,rfl⟩,⟨rfl,rfl⟩,rfl,trivial⟩,⟨rfl,nP⟩,⟨rfl,nP⟩,trivial⟩
   intro k hk;have hk:k≤(elt (dflt aV) p.2.1 (i:Nat)).2.2.2.1.length:=hk;refine aI (fun q2=> ?_) (fun q2=> ?_)
   ·have hklt:k<(elt (dflt aV) p.2.1 (i:Nat)).2.2.2.1.length:=dX q2;obtain⟨hk1,hk2⟩:=sP h hlt k;have hkw:=hwk.2 ((elt (dflt aV) p.2.1 (i:Nat)).2.2.2.1.getD k ((0,0),(0,0))) (by rw[List.getD_eq_getElem?_getD,List.getElem?_eq_getElem hklt];exact List.getElem_mem hklt);refine aI (show(0:Int)≤(k:Nat)∧((k:Nat):Int)<((elt (dflt aV) p.2.1 (i:Nat)).2.2.2.1.length:Nat) by omega) ?_;refine Or.inr (eI _ (eI _ (aI (Nt (eZ p i k) [] _ _ hk1 hkw.1 hkw.2 (by omega)) ?_)));refine aM (k+1) hklt ?_ (show(elt (dflt aV) p.2.1 (i:Nat)).2.2.2.1.length-(k+1)<(elt (dflt aV) p.2.1 (i:Nat)).2.2.2.1.length-k by omega)
    rw[oG p hklt];exact Go.Tr.hd [(20001,38)] rfl (aI ⟨bD (by have:=hwk.1;omega),rfl⟩ trivial) ⟨trivial,⟨rfl,trivial⟩,trivial,⟨rfl,⟨rfl,rfl⟩,⟨rfl,rfl⟩,⟨rfl,rfl⟩,rfl,trivial⟩,⟨rfl,nP⟩,⟨rfl,nP⟩,trivial⟩
   ·have hge:=dR q2;have hke:k=(elt (dflt aV) p.2.1 (i:Nat)).2.2.2.1.length:=by have:(elt (dflt aV) p.2.1 (i:Nat)).2.2.2.1.length≤k:=hge;omega
    refine aM (i+1) hlt ?_ (show p.2.1.length-(i+1)<p.2.1.length-i by omega);rw[qw p hlt,←hke];exact Go.Tr.hd [] rfl (aI ⟨bD (by omega),rfl⟩ trivial) ⟨trivial,⟨rfl,trivial⟩,trivial,⟨rfl,⟨rfl,rfl⟩,⟨rfl,rfl⟩,⟨rfl,rfl⟩,rfl,trivial⟩,⟨rfl,nP⟩,⟨rfl,nP⟩,trivial⟩
  ·have hge:p.2.1.length≤i:=dR q1;have hie:i=p.2.1.length:=by have:i≤p.2.1.length:=hi;omega
   subst hie;refine Or.inr (eI _ (eI _ (aI hun ?_)));refine aI (fun q=>by have q:decide (((600:Nat):Int)<((jG (gB p)).length:Nat))=true:=q;rw[hd]at q;cases q) (fun _=> ?_);refine fin [(10000,41)] (aI rfl ?_);exact⟨⟨rfl,nP⟩,trivial⟩
end Go.Proofs.YtgiceoidjipgmaaGreat
