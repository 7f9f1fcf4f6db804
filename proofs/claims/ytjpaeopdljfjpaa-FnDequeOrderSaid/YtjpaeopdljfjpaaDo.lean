
/- New deques, and a run of a deque, as calls of the symbolic machine. -/
import Derived.Test.YtjpaeopdljfjpaaShort
import Derived.Test.YtjpaeopdljfjpaaLa
import Derived.Test.YtjpaeopdljfjpaaMe
import Derived.Test.YtjpaeopdljfjpaaDp
import Derived.Test.YtjpaeopdljfjpaaDq20
set_option linter.unusedSimpArgs false
set_option linter.unusedVariables false
namespace Go.Tr
open Go Go.RowKit
universe u
abbrev gZ:U:=.pair (.sl (.int .i64)) (.pair (.int .i64) (.pair (.int .i64) (.pair (.int .i64) (.int .i64))))
abbrev jy:U:=.pair (.int .i64) (.int .i64)
abbrev qz:U:=.pair (.int .i64) (.pair (.int .i64) (.pair (.sl (.int .i64)) (.pair (.sl gZ) (.pair (.sl jy) (.sl (.int .i64))))))
def GL(x:Int):Bool:=bif decide (1≤x)then decide (x≤1000)else false
def wN(x:Int):Bool:=bif x !=0 then !GL x else false
def mW(x:Int):Bool:=bif decide (x<0)then true else decide (10<x)
def yH(a:ah):El gZ:=(a.todo,a.pc,a.t,a.b,a.x)
def fI(a:ak):El jy:=(a.actor,a.value)
def sU(d:aQ):El qz:=(d.top,d.bottom,d.buffer,d.actors.map yH,d.taken.map fI,d.refused)
theorem BI(xs:List ah):List.flatMap (enc gZ) (xs.map yH)=xs.flatMap ah.enc:=by
 rw[List.flatMap_map];rfl
theorem Ad(xs:List ak):List.flatMap (enc jy) (xs.map fI)=xs.flatMap ak.enc:=by
 rw[List.flatMap_map];rfl
theorem vO(d:aQ):enc qz (sU d)=d.enc:=by
 show[D.v (.int .i64 d.top)]++([D.v (.int .i64 d.bottom)]++([D.sl d.buffer.length (List.flatMap (enc (.int .i64)) d.buffer)]++([D.sl (d.actors.map yH).length (List.flatMap (enc gZ) (d.actors.map yH))]++([D.sl (d.taken.map fI).length (List.flatMap (enc jy) (d.taken.map fI))]++[D.sl d.refused.length (List.flatMap (enc (.int .i64)) d.refused)]))))=_;rw[BI,Ad,qV,qV];rfl
end Go.Tr
namespace Go.Proofs.Ytjpaeopdljfjpaa
open Go Go.RowKit Go.Proofs Go.Tr
theorem Ce:dA Try.prog 10=true:=by kernel_rfl
theorem yx(x:aQ)(sch:List Int)(y:aQ)(n c:Int)(h:gM x sch=(y,n,c)):oV Try.prog 10 [.agg (iB qz (sU x)),.rsl (.int .i64) sch] (.tup [.agg (iB qz (sU y)),.int .i64 n,.int .i64 c]):=by
 refine⟨Ce,fun β w vs hd=> ?_⟩;unfold aF at hd;obtain⟨v1,vs1,rfl,hd1,hd⟩:=hd;unfold aF at hd;obtain⟨v2,vs2,rfl,hd2,hd⟩:=hd;unfold aF at hd;subst hd;unfold Den at hd1 hd2;obtain⟨us,rfl,hd1⟩:=hd1;obtain⟨bs,ht⟩:=KD (Inv.zx w) hd1;rw[vO]at ht;obtain⟨A2,c2,b2,A3,c3,b3,A4,c4,b4,A5,c5,b5,rfl, -,t2, -, -,t3, -, -,t4, -, -,t5, -, -⟩:=aQ.us ht;obtain⟨A1,c1,rfl⟩:=hd2.slice;refine(AX x sch A2 c2 A3 c3 A4 c4 A5 c5 A1 c1 y n c h.symm w (dz.of t2) (dz.of t3) (dz.of t4) (dz.of t5) hd2).mono ?_;rintro _ w' ⟨us,rfl,hI⟩
 obtain⟨G,⟨F,G',rfl,⟨k1,k2⟩,rfl,_⟩,hG⟩:=hI.sep;refine⟨_,rfl,hI.fH,?_⟩;unfold Den;refine⟨[.agg us.toArray,.int .i64 n,.int .i64 c],rfl,?_⟩;unfold aF;refine⟨_,_,rfl,?_,?_⟩
 ·unfold Den;refine⟨us,rfl,nk qz (sU y) ?_⟩;rw[vO];refine⟨F,k1,fun b hb hm=> ?_⟩;have h1:=List.mem_range.1 hm;rcases hG b (by simpa using hb)with h2|h2
  ·simp at h2
  ·omega
 ·unfold aF;refine⟨_,_,rfl,by unfold Den;rfl,?_⟩;unfold aF;exact⟨_,_,rfl,by unfold Den;rfl,by unfold aF;rfl⟩
theorem Ap:dA Try.prog 28=true:=by kernel_rfl
theorem J4(xs:List (El (.int .i64)))(hx:xs.length≤1048576):eX Try.prog 28 [.rsl (.int .i64) xs] [] (.sl 10000) [.row 10000 2 1 (.int .i64) xs []]:=by
 refine eX.IY (fun he c=> ?_) ?_
 ·subst he;refine eX.intro (nt:=8) jv mixed Ap Try.func28 rfl rfl rfl rfl rfl rfl ?_;refine aI (fun h1=> ?_) (fun h1=>by cases h1);refine LP [⟨2,30000,2,1,.int .i64⟩] [(10000,30000)] (aI rfl ?_);exact⟨⟨rfl,nP⟩,trivial⟩
 ·refine eX.intro (nt:=8) jv mixed Ap Try.func28 rfl rfl rfl rfl rfl rfl ?_;refine aI (fun h1=>by cases h1) (fun h1=> ?_);refine aI (by show 0+xs.length≤_;omega) ?_;refine fin [(10000,7)] (aI rfl ?_);exact⟨⟨rfl,nP⟩,trivial⟩
theorem Lh(x:Int):gD Try.prog 26 [.int .i64 x] (.bool (GL x)):=by
 refine gD.intro (nt:=9) jv mixed (by kernel_rfl) Try.func26 rfl rfl rfl rfl rfl ?_;exact rfl
theorem LW(x:Int):gD Try.prog 25 [.int .i64 x] (.bool (wN x)):=by
 refine gD.intro (nt:=10) jv mixed (by kernel_rfl) Try.func25 rfl rfl rfl rfl rfl ?_;refine Or.inl (eI _ (aI (fun _=>Lh x) ?_));exact rfl
theorem LX(x:Int):gD Try.prog 27 [.int .i64 x] (.bool (mW x)):=by
 refine gD.intro (nt:=9) jv mixed (by kernel_rfl) Try.func27 rfl rfl rfl rfl rfl ?_;exact rfl
def iJ(ns:List Int):List (El gZ):=ns.map fun n=>(List.replicate n.toNat (0:Int),0,0,0,0)
theorem Cc:dA Try.prog 9=true:=by kernel_rfl
set_option maxRecDepth 100000 in
theorem JD(ops ns:List Int)(h1:ops.length≤10)(h2:ns.length≤3)(h3:ops.any wN=false)(h4:ns.any mW=false):
  eX Try.prog 9 [.int .i64 8,.rsl (.int .i64) ops,.rsl (.int .i64) ns] [] (.tup [.agg [.int .i64 0,.int .i64 0,.sl 10000,.sl 10001,.raw (.slice none 0 0),.raw (.slice none 0 0)],.int .i64 0])
   [.row 10000 2 1 (.int .i64) (List.replicate 8 (0:Int)) [],.row 10001 57 5 gZ ((ops,0,0,0,0)::iJ ns) []]:=by
 refine eX.intro (nt:=58) jv mixed Cc Try.func9 rfl rfl rfl rfl rfl rfl ?_;refine aI (fun q=> ?_) (fun _=> ?_)
 ·exfalso;have e1:decide ((10:Int)<(ops.length:Nat))=false:=decide_eq_false (by omega);have e2:decide ((3:Int)<(ns.length:Nat))=false:=decide_eq_false (by omega);have q':(bif (bif (bif decide ((8:Int)<1)then true else decide ((8:Int)<8))then true else decide ((10:Int)<(ops.length:Nat)))then true else decide ((3:Int)<(ns.length:Nat)))=true:=q;rw[e1,e2]at q';cases q'
 refine Or.inl (eI _ (aI (Fu ops _ wN (by omega) (fun i _=>LW _)) ?_));refine Or.inl (eI _ (aI (fun _=>Fu ns _ mW (by omega) (fun i _=>LX _)) ?_));refine aI (fun q=> ?_) (fun _=> ?_)
 ·exfalso;have q':(bif ops.any wN then true else ns.any mW)=true:=q;rw[h3,h4]at q';cases q'
 refine aI (by decide) ?_;refine Or.inr (eI _ (eI _ (aI (J4 ops (by omega)) ?_)));refine aI (by kernel_rfl) ?_
 refine lp Nat (fun i=>[(44,.int .i64 (i:Nat))]) (fun i=>[.gG 6 30 [.int .i64 0,.int .i64 0,.raw (.slice none 0 0),.raw (.slice none 0 0),.raw (.slice none 0 0),.raw (.slice none 0 0)],.gG 8 30 [.int .i64 0,.int .i64 0,.sl 36,.sl 20000,.raw (.slice none 0 0),.raw (.slice none 0 0)],
  .row 36 2 1 (.int .i64) (List.replicate 8 (0:Int)) [],.row 20000 57 5 gZ ((ops,0,0,0,0)::iJ (ns.take i)) []]) (fun i=>ns.length-i) (fun i=>i≤ns.length) 0 (Nat.zero_le _) ?_ ?_
 ·refine hd [(20000,40)] rfl (aI ⟨rfl,rfl⟩ trivial) ?_;exact⟨trivial,⟨⟨rfl,rfl⟩,⟨rfl,rfl⟩,rfl,rfl,rfl,rfl,trivial⟩,trivial,⟨⟨rfl,rfl⟩,⟨rfl,rfl⟩,rfl,rfl,rfl,rfl,trivial⟩,⟨rfl,nP⟩,⟨rfl,nP⟩,trivial⟩
 intro i hi;refine aI (fun q1=> ?_) (fun q1=> ?_)
 ·have hlt:i<ns.length:=by have:((i:Nat):Int)<(ns.length:Nat):=of_decide_eq_true q1;omega
  refine aI (show 0≤((i:Nat):Int)∧((i:Nat):Int)<(ns.length:Nat) by omega) ?_
  have hm:mW (elt 0 ns (i:Nat))=false:=by
   have hmem:elt 0 ns (i:Nat)∈ns:=by
    unfold elt;rw[qK,qC,qB hlt];exact List.getElem_mem hlt
   rw[List.any_eq_false]at h4;simpa using h4 _ hmem
  have hn:0≤elt 0 ns (i:Nat)∧elt 0 ns (i:Nat)≤10:=by
   unfold mW at hm;cases hd:decide (elt 0 ns (i:Nat)<0)with
   |true=>rw[hd]at hm;cases hm
   |false=>
    rw[hd]at hm;have h5:¬elt 0 ns (i:Nat)<0:=of_decide_eq_false hd;have h6:¬10<elt 0 ns (i:Nat):=of_decide_eq_false hm;omega
  refine aI (show 0≤elt 0 ns (i:Nat)∧elt 0 ns (i:Nat)≤elt 0 ns (i:Nat)∧elt 0 ns (i:Nat)≤2097152 by omega) ?_;refine aI (show((ops,0,0,0,0)::iJ (ns.take i):List (El gZ)).length+1≤1073741824 by simp[iJ];omega) ?_;refine aI (by kernel_rfl) ?_;refine oL (i+1) hlt ?_ (by show ns.length-(i+1)<ns.length-i;omega);refine hd [(20000,54)] rfl (aI ⟨Bp (by omega),rfl⟩ trivial) ?_;refine⟨trivial,⟨⟨rfl,rfl⟩,⟨rfl,rfl⟩,rfl,rfl,rfl,rfl,trivial⟩,trivial,⟨⟨rfl,rfl⟩,⟨rfl,rfl⟩,rfl,rfl,rfl,rfl,trivial⟩,⟨rfl,nP⟩,⟨?_,nP⟩,trivial⟩
  show((ops,0,0,0,0)::iJ (ns.take i):List (El gZ))++[(List.replicate (elt 0 ns (i:Nat)).toNat 0,0,0,0,0)]=(ops,0,0,0,0)::iJ (ns.take (i+1));unfold iJ;rw[List.take_succ_eq_append_getElem hlt,qZ];have:elt 0 ns (i:Nat)=ns[i]:=by unfold elt;rw[qK,qC,qB hlt];rfl
  rw[this];rfl
 ·have hge:ns.length≤i:=by have:¬((i:Nat):Int)<(ns.length:Nat):=of_decide_eq_false q1;omega
  have:i=ns.length:=by omega
  subst this;refine fin [(10000,36),(10001,20000)] (aI rfl ?_);exact⟨⟨rfl,nP⟩,⟨congrArg (fun l=>((ops,0,0,0,0)::iJ l:List (El gZ))) (List.take_length (l:=ns)),nP⟩,trivial⟩
end Go.Proofs.Ytjpaeopdljfjpaa
