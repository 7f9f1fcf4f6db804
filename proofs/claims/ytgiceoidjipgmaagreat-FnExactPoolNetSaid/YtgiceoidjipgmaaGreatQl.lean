
/- A pool's memory with all words connected, by the reference. -/
import Derived.Test.YtgiceoidjipgmaaGreatShort
import Derived.Test.YtgiceoidjipgmaaGreatQj
set_option linter.unusedSimpArgs false
set_option linter.unusedVariables false
namespace Go.Proofs.YtgiceoidjipgmaaGreat
open Go Go.RowKit Go.Proofs Go.Tr
set_option maxHeartbeats 4000000 in
set_option maxRecDepth 100000 in
theorem La(p:fA)(h:GI p)(hsm:om p):aC Tryz.prog 37 [.rp qm p] [] (Jm (gB p)) (PU (gB p)):=by
 have hc0:=h.cells;have hw4:=h.ws;have hm0:qQ p.1:=⟨by omega,h.ok.data,h.ok.len,by rw[h.nored];simp⟩;have hrl:(dY p.2.1).length≤16777216:=by have:=h.lW;omega
 refine aC.intro (nt:=61) aQ mixed (by kernel_rfl) Tryz.func37 rfl rfl rfl rfl rfl rfl ?_;refine Or.inr (eI _ (eI _ (aI (NR p.1 hm0 h.pos) ?_)));refine Or.inr (eI _ (eI _ (aI (I6 p hsm.workers hrl) ?_)));refine lp Nat (fun i=>[(4,.int .i64 (i:Nat))]) (fun i=>[.bY 2 41 [.raw (.slice none 0 0),.int .i64 0,.int .i64 0,.int .i64 0,.raw (.slice none 0 0)],.bY 3 41 [.sl 20000,.int .i64 (iA p i).2.1,.int .i64 (iA p i).2.2.1.1,.int .i64 (iA p i).2.2.1.2,.sl 20001],.row 20000 123 5 aL (iA p i).1 [],.row 20001 127 2 aR (iA p i).2.2.2 []]) (fun i=>p.2.1.length-i) (fun i=>i≤p.2.1.length) 0 (Nat.zero_le _) ?_ ?_
 ·exact Go.Tr.hd [(20000,9),(20001,11)] rfl (aI ⟨rfl,rfl⟩ trivial) ⟨trivial,⟨rfl,⟨rfl,rfl⟩,⟨rfl,rfl⟩,⟨rfl,rfl⟩,rfl,trivial⟩,trivial,⟨rfl,⟨rfl,rfl⟩,⟨rfl,rfl⟩,⟨rfl,rfl⟩,rfl,trivial⟩,⟨rfl,nP⟩,⟨rfl,nP⟩,trivial⟩
 intro i hi;have hi:i≤p.2.1.length:=hi;refine aI (fun q1=> ?_) (fun q1=> ?_)
 ·have hlt:i<p.2.1.length:=dX q1;have hix:(0:Int)≤(i:Nat)∧((i:Nat):Int)<(p.2.1.length:Nat):=by omega
  have hwk:=h.links _ (Bc hlt);refine lp Nat (fun k=>[(5,.int .i64 (k:Nat))]) (fun k=>[.bY 2 41 [.raw (.slice none 0 0),.int .i64 0,.int .i64 0,.int .i64 0,.raw (.slice none 0 0)],.bY 3 41 [.sl 20000,.int .i64 (eZ p i k).2.1,.int .i64 (eZ p i k).2.2.1.1,.int .i64 (eZ p i k).2.2.1.2,.sl 20001],.row 20000 123 5 aL (eZ p i k).1 [],.row 20001 127 2 aR (eZ p i k).2.2.2 []]) (fun k=>(elt (dflt aV) p.2.1 (i:Nat)).2.2.2.1.length-k) (fun k=>k≤(elt (dflt aV) p.2.1 (i:Nat)).2.2.2.1.length) 0 (Nat.zero_le _) ?_ ?_
  ·exact Go.Tr.hd [] rfl (aI ⟨rfl,rfl⟩ trivial) ⟨trivial,⟨rfl,⟨rfl,rfl⟩,⟨rfl,rfl⟩,⟨rfl,rfl⟩,rfl,trivial⟩,trivial,⟨rfl,⟨rfl,rfl⟩,⟨rfl,rfl⟩,⟨rfl,rfl⟩,rfl,trivial⟩,⟨rfl,nP⟩,⟨rfl,nP⟩,trivial⟩
  intro k hk;have hk:k≤(elt (dflt aV) p.2.1 (i:Nat)).2.2.2.1.length:=hk;refine aI hix ?_;refine aI (fun q2=> ?_) (fun q2=> ?_)
  ·have hklt:k<(elt (dflt aV) p.2.1 (i:Nat)).2.2.2.1.length:=dX q2;have hkx:(0:Int)≤(k:Nat)∧((k:Nat):Int)<((elt (dflt aV) p.2.1 (i:Nat)).2.2.2.1.length:Nat):=by omega
   obtain⟨hk1,hk2⟩:=sP h hlt k;have hkw:=hwk.2 ((elt (dflt aV) p.2.1 (i:Nat)).2.2.2.1.getD k ((0,0),(0,0))) (by rw[List.getD_eq_getElem?_getD,List.getElem?_eq_getElem hklt];exact List.getElem_mem hklt);refine aI hix ?_;refine aI hkx ?_;refine aI hix ?_;refine aI hkx ?_;refine Or.inr (eI _ (eI _ (aI (Pj (eZ p i k) [] _ _ hk1 hkw.1 hkw.2 (by omega)) ?_)));refine aI (by kernel_rfl) ?_;refine aM (k+1) hklt ?_ (show(elt (dflt aV) p.2.1 (i:Nat)).2.2.2.1.length-(k+1)<(elt (dflt aV) p.2.1 (i:Nat)).2.2.2.1.length-k by omega);rw[oG p hklt]
   exact Go.Tr.hd [(20001,59)] rfl (aI ⟨bD (by have:=hwk.1;omega),rfl⟩ trivial) ⟨trivial,⟨rfl,⟨rfl,rfl⟩,⟨rfl,rfl⟩,⟨rfl,rfl⟩,rfl,trivial⟩,trivial,⟨rfl,⟨rfl,rfl⟩,⟨rfl,rfl⟩,⟨rfl,rfl⟩,rfl,trivial⟩,⟨rfl,nP⟩,⟨rfl,nP⟩,trivial⟩
  ·have hge:=dR q2;have hke:k=(elt (dflt aV) p.2.1 (i:Nat)).2.2.2.1.length:=by have:(elt (dflt aV) p.2.1 (i:Nat)).2.2.2.1.length≤k:=hge;omega
   refine aM (i+1) hlt ?_ (show p.2.1.length-(i+1)<p.2.1.length-i by omega);rw[qw p hlt,←hke];exact Go.Tr.hd [] rfl (aI ⟨bD (by omega),rfl⟩ trivial) ⟨trivial,⟨rfl,⟨rfl,rfl⟩,⟨rfl,rfl⟩,⟨rfl,rfl⟩,rfl,trivial⟩,trivial,⟨rfl,⟨rfl,rfl⟩,⟨rfl,rfl⟩,⟨rfl,rfl⟩,rfl,trivial⟩,⟨rfl,nP⟩,⟨rfl,nP⟩,trivial⟩
 ·have hge:p.2.1.length≤i:=dR q1;have hie:i=p.2.1.length:=by omega
  subst hie;refine fin [(10000,20000),(10001,20001)] (aI rfl ?_);exact⟨⟨rfl,nP⟩,⟨rfl,nP⟩,trivial⟩
end Go.Proofs.YtgiceoidjipgmaaGreat
