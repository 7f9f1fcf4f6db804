
/- A pool's memory is copied; by the program and by the reference. -/
import Derived.Test.YtgiceoidjipgmaaGreatShort
import Derived.Test.YtgiceoidjipgmaaGreatQd
set_option maxRecDepth 100000
set_option linter.unusedSimpArgs false
set_option linter.unusedVariables false
namespace Go.Proofs.YtgiceoidjipgmaaGreat
open Go Go.RowKit Go.Proofs Go.Tr
theorem zn:dA Tryz.prog 98=true:=by kernel_rfl
theorem ED(xs:List (El (.int .i64)))(hx:xs.length≤16777216):aC Tryz.prog 98 [.rsl (.int .i64) xs] [] (.sl 10000) [.row 10000 2 1 (.int .i64) xs []]:=by
 refine aC.Ml (fun he c=> ?_) ?_
 ·subst he;refine aC.intro (nt:=8) aQ mixed zn Tryz.func98 rfl rfl rfl rfl rfl rfl ?_;refine aI (fun h1=> ?_) (fun h1=>by cases h1);refine L6 [⟨2,30000,2,1,.int .i64⟩] [(10000,30000)] (aI rfl ?_);exact⟨⟨rfl,nP⟩,trivial⟩
 ·refine aC.intro (nt:=8) aQ mixed zn Tryz.func98 rfl rfl rfl rfl rfl rfl ?_;refine aI (fun h1=>by cases h1) (fun h1=> ?_);refine aI (by show 0+xs.length≤_;omega) ?_;refine fin [(10000,7)] (aI rfl ?_);exact⟨⟨rfl,nP⟩,trivial⟩
theorem zq:dA Tryz.prog 99=true:=by kernel_rfl
theorem JV(xs:List (El (aR)))(hx:xs.length≤16777216):aC Tryz.prog 99 [.rsl (aR) xs] [] (.sl 10000) [.row 10000 38 2 (aR) xs []]:=by
 refine aC.Ml (fun he c=> ?_) ?_
 ·subst he;refine aC.intro (nt:=8) aQ mixed zq Tryz.func99 rfl rfl rfl rfl rfl rfl ?_;refine aI (fun h1=> ?_) (fun h1=>by cases h1);refine L6 [⟨2,30000,38,2,aR⟩] [(10000,30000)] (aI rfl ?_);exact⟨⟨rfl,nP⟩,trivial⟩
 ·refine aC.intro (nt:=8) aQ mixed zq Tryz.func99 rfl rfl rfl rfl rfl rfl ?_;refine aI (fun h1=>by cases h1) (fun h1=> ?_);refine aI (by show 0+xs.length≤_;omega) ?_;refine fin [(10000,7)] (aI rfl ?_);exact⟨⟨rfl,nP⟩,trivial⟩
theorem zo:dA Tryz.prog 97=true:=by kernel_rfl
theorem JU(xs:List (El (aR)))(hx:xs.length≤16777216):aC Tryz.prog 97 [.rsl (aR) xs] [] (.sl 10000) [.row 10000 127 2 (aR) xs []]:=by
 refine aC.Ml (fun he c=> ?_) ?_
 ·subst he;refine aC.intro (nt:=8) aQ mixed zo Tryz.func97 rfl rfl rfl rfl rfl rfl ?_;refine aI (fun h1=> ?_) (fun h1=>by cases h1);refine L6 [⟨2,30000,127,2,aR⟩] [(10000,30000)] (aI rfl ?_);exact⟨⟨rfl,nP⟩,trivial⟩
 ·refine aC.intro (nt:=8) aQ mixed zo Tryz.func97 rfl rfl rfl rfl rfl rfl ?_;refine aI (fun h1=>by cases h1) (fun h1=> ?_);refine aI (by show 0+xs.length≤_;omega) ?_;refine fin [(10000,7)] (aI rfl ?_);exact⟨⟨rfl,nP⟩,trivial⟩
abbrev PX(m:bE):SV:=.agg [.rsl aL m.1,.int .i64 m.2.1,.int .i64 m.2.2.1.1,.int .i64 m.2.2.1.2,.rsl aR m.2.2.2]
abbrev Jm(m:bE):SV:=.agg [.sl 10000,.int .i64 m.2.1,.int .i64 m.2.2.1.1,.int .i64 m.2.2.1.2,.sl 10001]
abbrev PU(m:bE):List Tok:=[.row 10000 123 5 aL m.1 [],.row 10001 127 2 aR m.2.2.2 []]
structure qQ(m:bE):Prop where
 cells:m.1.length≤1048576
 data:∀c∈m.1,c.2.2.2.1.length≤1048576
 words:∀c∈m.1,c.2.2.2.2.length≤1048576
 lW:m.2.2.2.length≤16777216
set_option maxHeartbeats 1000000 in
theorem G9(m:bE)(hs:qQ m):aC Tryz.prog 49 [PX m] [] (Jm m) (PU m):=by
 have hl:=hs.cells;refine aC.intro (nt:=41) aQ mixed (by kernel_rfl) Tryz.func49 rfl rfl rfl rfl rfl rfl ?_;refine aI ⟨Int.le_refl 0,by omega,by omega⟩ ?_;refine Or.inr (eI _ (eI _ (aI (JU m.2.2.2 hs.lW) ?_)));refine aI (by kernel_rfl) ?_;refine lp Nat (fun i=>[(21,.int .i64 (i:Nat))]) (fun i=>[.bY 1 41 [.rsl aL m.1,.int .i64 m.2.1,.int .i64 m.2.2.1.1,.int .i64 m.2.2.1.2,.rsl aR m.2.2.2],.bY 2 41 [.raw (.slice none 0 0),.int .i64 0,.int .i64 0,.int .i64 0,.raw (.slice none 0 0)],.bY 3 41 [.sl 20000,.int .i64 m.2.1,.int .i64 m.2.2.1.1,.int .i64 m.2.2.1.2,.sl 20001],.row 20000 123 5 aL (m.1.take i) [],.row 20001 127 2 aR m.2.2.2 []]) (fun i=>m.1.length-i) (fun i=>i≤m.1.length) 0 (Nat.zero_le _) ?_ ?_
 ·refine Go.Tr.hd [(20000,9),(20001,16)] rfl (aI ⟨rfl,rfl⟩ trivial) ?_;exact⟨trivial,⟨rfl,⟨rfl,rfl⟩,⟨rfl,rfl⟩,⟨rfl,rfl⟩,rfl,trivial⟩,trivial,⟨rfl,⟨rfl,rfl⟩,⟨rfl,rfl⟩,⟨rfl,rfl⟩,rfl,trivial⟩,trivial,⟨rfl,⟨rfl,rfl⟩,⟨rfl,rfl⟩,⟨rfl,rfl⟩,rfl,trivial⟩,⟨rfl,nP⟩,⟨rfl,nP⟩,trivial⟩
 intro i hi;refine aI (fun q1=> ?_) (fun q1=> ?_)
 ·have hlt:i<m.1.length:=dX q1;refine aI (show(0:Int)≤(i:Nat)∧((i:Nat):Int)<(m.1.length:Nat) by omega) ?_;refine Or.inr (eI _ (eI _ (aI (ED (aj m.1 (i:Nat)).2.2.2.1 (by have:=hs.data _ (bR hlt);omega)) ?_)));refine Or.inr (eI _ (eI _ (aI (JV (aj m.1 (i:Nat)).2.2.2.2 (by have:=hs.words _ (bR hlt);omega)) ?_)));refine aI (by kernel_rfl) ?_;refine aI (by show(m.1.take i).length+1≤_;rw[List.length_take];omega) ?_;refine aM (i+1) hlt ?_ (show m.1.length-(i+1)<m.1.length-i by omega);refine Go.Tr.hd [(20000,37)] rfl (aI ⟨bD (by omega),rfl⟩ trivial) ?_
  refine⟨trivial,⟨rfl,⟨rfl,rfl⟩,⟨rfl,rfl⟩,⟨rfl,rfl⟩,rfl,trivial⟩,trivial,⟨rfl,⟨rfl,rfl⟩,⟨rfl,rfl⟩,⟨rfl,rfl⟩,rfl,trivial⟩,trivial,⟨rfl,⟨rfl,rfl⟩,⟨rfl,rfl⟩,⟨rfl,rfl⟩,rfl,trivial⟩,⟨?_,nP⟩,⟨rfl,nP⟩,trivial⟩;show m.1.take i++[aj m.1 (i:Nat)]=m.1.take (i+1);rw[List.take_add_one,List.getElem?_eq_getElem hlt,dQ,List.getD_eq_getElem?_getD,List.getElem?_eq_getElem hlt];rfl
 ·have hge:m.1.length≤i:=dR q1;refine fin [(10000,20000),(10001,20001)] (aI rfl ?_);refine⟨⟨?_,nP⟩,⟨rfl,nP⟩,trivial⟩;show m.1.take i=m.1;rw[List.take_of_length_le hge]
theorem NQ(xs:List Int)(hx:xs.length≤1048576):aC Tryz.prog 120 [.rsl (.int .i64) xs] [] (.sl 10000) [.row 10000 2 1 (.int .i64) xs []]:=by
 refine aC.intro (nt:=6) aQ mixed (by kernel_rfl) Tryz.func120 rfl rfl rfl rfl rfl rfl ?_;refine aI (by show 0+xs.length≤_;omega) ?_;refine fin [(10000,5)] (aI rfl ?_);exact⟨⟨rfl,nP⟩,trivial⟩
theorem Le(c:ah)(h1:c.2.2.2.1.length≤1048576)(h2:c.2.2.2.2.length≤1048576):aC Tryz.prog 116 [.rp aL c] [] (.agg [.int .i64 c.1,.int .i64 c.2.1,.int .i64 c.2.2.1,.sl 10000,.sl 10001]) [.row 10000 2 1 (.int .i64) c.2.2.2.1 [],.row 10001 38 2 aR c.2.2.2.2 []]:=by
 refine aC.intro (nt:=27) aQ mixed (by kernel_rfl) Tryz.func116 rfl rfl rfl rfl rfl rfl ?_;refine Or.inr (eI _ (eI _ (aI (NQ _ h1) ?_)));refine aI (by show 0+c.2.2.2.2.length≤_;omega) ?_;refine aI (by kernel_rfl) ?_;refine fin [(10000,19),(10001,25)] (aI rfl ?_);exact⟨⟨rfl,nP⟩,⟨rfl,nP⟩,trivial⟩
set_option maxHeartbeats 1000000 in
theorem NR(m:bE)(hs:qQ m)(hne:0<m.1.length):aC Tryz.prog 73 [.rp gK m] [] (Jm m) (PU m):=by
 have hl:=hs.cells;refine aC.intro (nt:=42) aQ mixed (by kernel_rfl) Tryz.func73 rfl rfl rfl rfl rfl rfl ?_;refine aI (by show 0+m.2.2.2.length≤_;have:=hs.lW;omega) ?_;refine aI (by kernel_rfl) ?_
 refine lp Nat (fun i=>[(4,.int .i64 (i:Nat))]) (fun i=>match i with
  |0=>[.bY 2 41 [.raw (.slice none 0 0),.int .i64 0,.int .i64 0,.int .i64 0,.raw (.slice none 0 0)],.bY 3 41 [.raw (.slice none 0 0),.int .i64 m.2.1,.int .i64 m.2.2.1.1,.int .i64 m.2.2.1.2,.sl 20001],.row 20001 127 2 aR m.2.2.2 []]
  |i+1=>[.bY 2 41 [.raw (.slice none 0 0),.int .i64 0,.int .i64 0,.int .i64 0,.raw (.slice none 0 0)],.bY 3 41 [.sl 20000,.int .i64 m.2.1,.int .i64 m.2.2.1.1,.int .i64 m.2.2.1.2,.sl 20001],.row 20000 123 5 aL (m.1.take (i+1)) [],.row 20001 127 2 aR m.2.2.2 []]) (fun i=>m.1.length-i) (fun i=>i≤m.1.length) 0 (Nat.zero_le _) ?_ ?_
 ·refine Go.Tr.hd [(20001,18)] rfl (aI ⟨rfl,rfl⟩ trivial) ?_;exact⟨trivial,⟨rfl,⟨rfl,rfl⟩,⟨rfl,rfl⟩,⟨rfl,rfl⟩,rfl,trivial⟩,trivial,⟨rfl,⟨rfl,rfl⟩,⟨rfl,rfl⟩,⟨rfl,rfl⟩,rfl,trivial⟩,⟨rfl,nP⟩,trivial⟩
 intro i hi;cases i with
 |zero=>
  refine aI (fun q1=> ?_) (fun q1=>by have:=dR (k:=0) q1;omega);refine aI (show(0:Int)≤((0:Nat):Int)∧((0:Nat):Int)<(m.1.length:Nat) by omega) ?_;refine Or.inr (eI _ (eI _ (aI (Le (aj m.1 ((0:Nat):Int)) (hs.data _ (bR hne)) (hs.words _ (bR hne))) ?_)));refine aI (by show 1≤1073741824;omega) ?_;refine aI (by kernel_rfl) ?_;refine aM 1 hne ?_ (show m.1.length-1<m.1.length-0 by omega);refine Go.Tr.hd [(20000,39)] rfl (aI ⟨bD (k:=0) (by omega),rfl⟩ trivial) ?_;refine⟨trivial,⟨rfl,⟨rfl,rfl⟩,⟨rfl,rfl⟩,⟨rfl,rfl⟩,rfl,trivial⟩,trivial,⟨rfl,⟨rfl,rfl⟩,⟨rfl,rfl⟩,⟨rfl,rfl⟩,rfl,trivial⟩,⟨?_,nP⟩,⟨rfl,nP⟩,trivial⟩
  show[aj m.1 ((0:Nat):Int)]=m.1.take 1;rw[show(1:Nat)=0+1 from rfl,List.take_add_one,List.getElem?_eq_getElem hne,dQ,List.getD_eq_getElem?_getD,List.getElem?_eq_getElem hne];rfl
 |succ i=>
  refine aI (fun q1=> ?_) (fun q1=> ?_)
  ·have hlt:i+1<m.1.length:=dX q1;refine aI (show(0:Int)≤((i+1:Nat):Int)∧((i+1:Nat):Int)<(m.1.length:Nat) by omega) ?_;refine Or.inr (eI _ (eI _ (aI (Le (aj m.1 ((i+1:Nat):Int)) (hs.data _ (bR hlt)) (hs.words _ (bR hlt))) ?_)));refine aI (by show(m.1.take (i+1)).length+1≤_;rw[List.length_take];omega) ?_;refine aI (by kernel_rfl) ?_;refine aM (i+2) hlt ?_ (show m.1.length-(i+2)<m.1.length-(i+1) by omega);refine Go.Tr.hd [(20000,39)] rfl (aI ⟨bD (by omega),rfl⟩ trivial) ?_;refine⟨trivial,⟨rfl,⟨rfl,rfl⟩,⟨rfl,rfl⟩,⟨rfl,rfl⟩,rfl,trivial⟩,trivial,⟨rfl,⟨rfl,rfl⟩,⟨rfl,rfl⟩,⟨rfl,rfl⟩,rfl,trivial⟩,⟨?_,nP⟩,⟨rfl,nP⟩,trivial⟩
   show m.1.take (i+1)++[aj m.1 ((i+1:Nat):Int)]=m.1.take (i+2);rw[show m.1.take (i+2)=m.1.take (i+1)++m.1[i+1]?.toList from List.take_add_one,List.getElem?_eq_getElem hlt,dQ,List.getD_eq_getElem?_getD,List.getElem?_eq_getElem hlt];rfl
  ·have hge:m.1.length≤i+1:=dR q1;refine fin [(10000,20000),(10001,20001)] (aI rfl ?_);refine⟨⟨?_,nP⟩,⟨rfl,nP⟩,trivial⟩;show m.1.take (i+1)=m.1;rw[List.take_of_length_le hge]
end Go.Proofs.YtgiceoidjipgmaaGreat
