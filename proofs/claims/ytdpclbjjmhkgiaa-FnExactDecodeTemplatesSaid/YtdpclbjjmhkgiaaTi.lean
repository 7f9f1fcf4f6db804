
/- Nets in bytes: the program's wires. -/
import Derived.Test.YtdpclbjjmhkgiaaShort
import Derived.Test.YtdpclbjjmhkgiaaTe
set_option maxRecDepth 100000
set_option linter.unusedSimpArgs false
set_option linter.unusedVariables false
namespace Go.Proofs.Ytdpclbjjmhkgiaa
open Go Go.RowKit Go.Proofs Go.Tr
def rM(cs:List Int):List aB→List ah→List aB→Dp→List ah×Dp
 |[],xs,_,s=>(xs,s)
 |p::ps,xs,ld,s=>bif decide (p∈ld)||s.2 then rM cs ps xs ld s else
   let n:=jE cs s
   let b:=jw cs n.2
   bif b.2.2|| !jq p (n.1,b.1)|| !hasB xs (n.1,b.1)||decide ((n.1,b.1)∈ld)then(xs,(b.2.1,true))else rM cs ps (bf xs p (n.1,b.1)) (ld++[p]++[(n.1,b.1)]) b.2
theorem uQ.link{xs:List ah}(h:uQ xs)(p q:aB):uQ (bf xs p q):=⟨by rw[eG];exact h.1,fun i hi=>by rw[Bn];exact h.2 i (by rwa[eG]at hi)⟩
theorem Vl(xs:List ah)(us:List Value)(q:aB):aC Try.prog 65 [.sl 10000,vP q] [.row 10000 64 5 aV xs us] (.bool (hasB xs q)) [.row 10000 64 5 aV xs us]:=
 aC.Cg aS [23,60] Pn (WU xs q) rfl
abbrev YN(xs:List ah)(us:List Value):List Tok:=[.bT 10001 25 [.sl 10002],.row 10002 64 5 aV xs us]
structure WiI(cs:List Int)(L:List aB)(R:List ah×Dp)(i:Nat)(xs:List ah)(ld:List aB)(s:Dp):Prop where
 le:i≤L.length
 run:rM cs (L.drop i) xs ld s=R
 sm:uQ xs
 pos:s.1≤cs.length
 inn:∀p∈L,aj xs p
theorem YI(cs:List Int)(hb:mK cs)(xs0:List ah)(hx:uQ xs0)(s0:Dp)(hs0:s0.1≤cs.length):aC Try.prog 42 [.ptr 10000 0,.ptr 10001 0] (cD cs s0::YN xs0 []) (.tup []) (cD cs (rM cs (bF xs0) xs0 [] s0).2 ::YN (rM cs (bF xs0) xs0 [] s0).1 []):=by
 have hlen:=hb.len;obtain⟨L,hL⟩:∃L,L=bF xs0:=⟨_,rfl⟩;have hpl:L.length≤4*xs0.length:=by rw[hL];exact uD (pb:=fun _=>false) hx.2 xs0.length (Nat.le_refl _)
 have hx1:=hx.1;have hin:∀p∈L,aj xs0 p:=fun p hp=>(xu xs0 p).1 (hL▸hp)
 have hports:=Vz hx [];rw[←hL]at hports ⊢;obtain⟨R,hR⟩:∃R,R=rM cs L xs0 [] s0:=⟨_,rfl⟩;rw[←hR];refine aC.intro (nt:=66) aS mixed (by kernel_rfl) Try.func42 rfl rfl rfl rfl rfl rfl ?_;refine Or.inr (eI _ (eI _ (aI hports ?_)));refine lp (Nat×List ah×List aB×Dp) (fun z=>[(12,.int .i64 (z.1:Nat))]) (fun z=>[cD cs z.2.2.2,.bT 10001 25 [.sl 10002],.row 10002 64 5 aV z.2.1 [],.pmap 8 (IB z.2.2.1),.row 10 60 2 aQ L []]) (fun z=>L.length-z.1) (fun z=>WiI cs L R z.1 z.2.1 z.2.2.1 z.2.2.2) (0,xs0,[],s0) ⟨Nat.zero_le _,hR.symm,hx,hs0,hin⟩ ?_ ?_
 ·exact Go.Tr.hd [] rfl (aI ⟨rfl,rfl⟩ trivial) ⟨trivial,⟨rfl,⟨rfl,rfl⟩,rfl,trivial⟩,trivial,⟨rfl,trivial⟩,⟨rfl,nP⟩,rfl,⟨rfl,nP⟩,trivial⟩
 rintro⟨i,xs,ld,s⟩ ⟨hi,hrun,hsm,hpos,hinn⟩;have hi:i≤L.length:=hi;have hrun:rM cs (L.drop i) xs ld s=R:=hrun;have hpos:s.1≤cs.length:=hpos;have hinn:∀p∈L,aj xs p:=hinn;refine aI (fun q1=> ?_) (fun q1=> ?_)
 ·have hlt:i<L.length:=qM q1;obtain⟨p,hp⟩:∃p,p=L[i]:=⟨_,rfl⟩;have hdr:L.drop i=p::L.drop (i+1):=by rw[hp];exact List.drop_eq_getElem_cons hlt
  have hpe:elt (dflt aQ) L ((i:Nat):Int)=p:=by unfold elt;rw[show((i:Nat):Int).toNat=i by omega,List.getD_eq_getElem?_getD,List.getElem?_eq_getElem hlt,hp];rfl
  have hpi:aj xs p:=hinn p (by rw[hp];exact List.getElem_mem hlt);rw[hdr]at hrun;refine aI ⟨by omega,by omega⟩ ?_;have hpe1:(elt (dflt aQ) L ((i:Nat):Int)).1=p.1:=by rw[hpe]
  have hpe2:(elt (dflt aQ) L ((i:Nat):Int)).2=p.2:=by rw[hpe]
  have hg:tH (IB ld) (elt (dflt aQ) L ((i:Nat):Int))=decide (p∈ld):=by rw[Bh,hpe]
  refine aI (fun q2=> ?_) (fun q2=> ?_)
  ·have q2:(bif tH (IB ld) (elt (dflt aQ) L ((i:Nat):Int))then true else s.2)=true:=q2;rw[hg,gG]at q2;refine aK (i+1,xs,ld,s) ⟨hlt,?_,hsm,hpos,hinn⟩ ?_ (by show L.length-(i+1)<L.length-i;omega)
   ·rw[←hrun,rM,q2];rfl
   ·exact Go.Tr.hd [] rfl (aI ⟨bD (by omega),rfl⟩ trivial) ⟨trivial,⟨rfl,⟨rfl,rfl⟩,rfl,trivial⟩,trivial,⟨rfl,trivial⟩,⟨rfl,nP⟩,rfl,⟨rfl,nP⟩,trivial⟩
  have q2:(bif tH (IB ld) (elt (dflt aQ) L ((i:Nat):Int))then true else s.2)=false:=q2;rw[hg,gG]at q2;have hpl2:p∉ld:=by rw[Bool.or_eq_false_iff]at q2;simpa using q2.1
  rw[rM,q2]at hrun;have hw1:=tq cs hb s hpos;have hz1:=oH (cs:=cs) hpos;obtain⟨n,s1,e1⟩:∃n s1,jE cs s=(n,s1):=⟨_,_,rfl⟩;rw[e1]at hw1 hz1 hrun;have hz1:s1.1≤cs.length:=hz1;have hw2:=qD cs hb s1 hz1;have hz2:=iF (cs:=cs) hz1;have hrun:(bif (jw cs s1).2.2|| !jq p (n,(jw cs s1).1)|| !hasB xs (n,(jw cs s1).1)||decide ((n,(jw cs s1).1)∈ld)then(xs,((jw cs s1).2.1,true))else rM cs (L.drop (i+1)) (bf xs p (n,(jw cs s1).1)) (ld++[p]++[(n,(jw cs s1).1)]) (jw cs s1).2)=R:=hrun;obtain⟨b,s2,e2⟩:∃b s2,jw cs s1=(b,s2):=⟨_,_,rfl⟩
  rw[e2]at hw2 hz2 hrun;have hz2:s2.1≤cs.length:=hz2;have hrun:(bif s2.2|| !jq p (n,b)|| !hasB xs (n,b)||decide ((n,b)∈ld)then(xs,(s2.1,true))else rM cs (L.drop (i+1)) (bf xs p (n,b)) (ld++[p]++[(n,b)]) s2)=R:=hrun;refine Or.inr (eI _ (eI _ (aI hw1 ?_)));refine Or.inr (eI _ (eI _ (aI hw2 ?_)));have hbf:jq (elt (dflt aQ) L ((i:Nat):Int)) (n,b)=jq p (n,b):=by rw[hpe]
  refine Or.inl (eI _ (aI (fun _=>Uk (elt (dflt aQ) L ((i:Nat):Int)) (n,b)) ?_));have hx0:(bif s2.2 then true else !jq (elt (dflt aQ) L ((i:Nat):Int)) (n,b))=(s2.2|| !jq p (n,b)):=by rw[gG,hbf]
  cases hc:(s2.2|| !jq p (n,b))with
  |true=>
   rw[hc]at hrun hx0;have hrun:(xs,(s2.1,true))=R:=hrun;refine Or.inr (aI (fun gg=>absurd gg (by show ¬(!(bif s2.2 then true else !jq (elt (dflt aQ) L ((i:Nat):Int)) (n,b)))=true;rw[hx0];decide)) (fun _=> ?_));refine eI (.bool false) ?_;refine aI (by kernel_rfl) ?_;refine aI (fun _=> ?_) (fun q3=> ?_)
   ·rw[←hrun];exact fin [] (aI rfl ⟨trivial,⟨rfl,⟨rfl,rfl⟩,rfl,trivial⟩,trivial,⟨rfl,trivial⟩,⟨rfl,nP⟩,trivial⟩)
   ·have q3:(bif (bif (bif s2.2 then true else !jq (elt (dflt aQ) L ((i:Nat):Int)) (n,b))then true else !false)then true else tH (IB ld) (n,b))=false:=q3;rw[hx0]at q3;cases q3
  |false=>
   rw[hc]at hrun hx0;have hrun:(bif !hasB xs (n,b)||decide ((n,b)∈ld)then(xs,(s2.1,true))else rM cs (L.drop (i+1)) (bf xs p (n,b)) (ld++[p]++[(n,b)]) s2)=R:=hrun;refine Or.inr (aI (fun _=> ?_) (fun gg=>absurd gg (by show ¬(!(bif s2.2 then true else !jq (elt (dflt aQ) L ((i:Nat):Int)) (n,b)))=false;rw[hx0];decide)));refine eI _ (eI _ (aI (Vl xs [] (n,b)) ?_));refine aI (by kernel_rfl) ?_
   have hx1:(bif (bif (bif s2.2 then true else !jq (elt (dflt aQ) L ((i:Nat):Int)) (n,b))then true else !hasB xs (n,b))then true else tH (IB ld) (n,b))=(!hasB xs (n,b)||decide ((n,b)∈ld)):=by
    rw[hx0,Bh,gG,gG];rfl
   refine aI (fun q3=> ?_) (fun q3=> ?_)
   ·have q3:(bif (bif (bif s2.2 then true else !jq (elt (dflt aQ) L ((i:Nat):Int)) (n,b))then true else !hasB xs (n,b))then true else tH (IB ld) (n,b))=true:=q3;rw[hx1]at q3;rw[q3]at hrun;rw[←show(xs,(s2.1,true))=R from hrun];exact fin [] (aI rfl ⟨trivial,⟨rfl,⟨rfl,rfl⟩,rfl,trivial⟩,trivial,⟨rfl,trivial⟩,⟨rfl,nP⟩,trivial⟩)
   ·have q3:(bif (bif (bif s2.2 then true else !jq (elt (dflt aQ) L ((i:Nat):Int)) (n,b))then true else !hasB xs (n,b))then true else tH (IB ld) (n,b))=false:=q3;rw[hx1]at q3;rw[q3]at hrun;have hrun:rM cs (L.drop (i+1)) (bf xs p (n,b)) (ld++[p]++[(n,b)]) s2=R:=hrun;rw[Bool.or_eq_false_iff]at q3 hc;have hqi:aj xs (n,b):=sH.1 (by simpa using q3.1);have hql:(n,b)∉ld:=by simpa using q3.2
    have hbq:jq p (n,b)=true:=by simpa using hc.2
    have hne:p≠(n,b):=by
     intro e;rw[e,rW]at hbq;omega
    have hql2:(n,b)∉ld++[p]:=by
     rw[List.mem_append,List.mem_singleton];exact fun h=>h.elim hql fun e=>hne e.symm
    have hkv:xg (xg (IB ld) (elt (dflt aQ) L ((i:Nat):Int)) true) (n,b) true=IB (ld++[p]++[(n,b)]):=by rw[hpe,Bj _ _ hpl2,Bj _ _ hql2]
    have hlk:=Vp xs [] (elt (dflt aQ) L ((i:Nat):Int)) (n,b) (by rw[hpe];exact hpi) hqi;have hxe:bf xs (elt (dflt aQ) L ((i:Nat):Int)) (n,b)=bf xs p (n,b):=by rw[hpe]
    refine aI (by kernel_rfl) ?_;refine Or.inr (eI _ (eI _ (aI hlk ?_)));refine aK (i+1,bf xs p (n,b),ld++[p]++[(n,b)],s2) ⟨hlt,hrun,hsm.link _ _,hz2,fun p hp=>(hinn p hp).link⟩ ?_ (by show L.length-(i+1)<L.length-i;omega);exact Go.Tr.hd [] rfl (aI ⟨bD (by omega),rfl⟩ trivial) ⟨trivial,⟨rfl,⟨rfl,rfl⟩,rfl,trivial⟩,trivial,⟨rfl,trivial⟩,⟨hxe,nP⟩,hkv,⟨rfl,nP⟩,trivial⟩
 ·have hge:i=L.length:=Nat.le_antisymm hi (qI q1);subst hge;rw[List.drop_length]at hrun;rw[←show(xs,s)=R from hrun];exact fin [] (aI rfl ⟨trivial,⟨rfl,⟨rfl,rfl⟩,rfl,trivial⟩,trivial,⟨rfl,trivial⟩,⟨rfl,nP⟩,trivial⟩)
def dS(f:Dp→ah×Dp)(a0:ah):Nat→Dp→List ah×Dp
 |0,s=>([a0],s)
 |j+1,s=>bif (dS f a0 j s).2.2 then dS f a0 j s else((dS f a0 j s).1++[(f (dS f a0 j s).2).1],(f (dS f a0 j s).2).2)
theorem xA{f:Dp→ah×Dp}{a0:ah}{s:Dp}{j:Nat}(h:(dS f a0 j s).2.2=true):∀i,dS f a0 (j+i) s=dS f a0 j s
 |0=>rfl
 |i+1=>by
  have ih:=xA h i;rw[←Nat.add_assoc,dS,ih,h];rfl
theorem Fb(f:Dp→ah×Dp)(a0:ah)(s:Dp):∀j,1≤(dS f a0 j s).1.length∧(dS f a0 j s).1.length≤j+1
 |0=>⟨Nat.le_refl _,Nat.le_refl _⟩
 |j+1=>by
  have ih:=Fb f a0 s j;unfold dS;cases (dS f a0 j s).2.2 with
  |true=>show 1≤(dS f a0 j s).1.length∧(dS f a0 j s).1.length≤_;omega
  |false=>show 1≤((dS f a0 j s).1++[_]).length∧((dS f a0 j s).1++[_]).length≤_;rw[List.length_append,List.length_singleton];omega
theorem Fa{f:Dp→ah×Dp}{a0:ah}{A:ah→Prop}{B:Dp→Prop}(h0:A a0)(hf:∀s,B s→A (f s).1∧B (f s).2){s:Dp}(hs:B s):∀j,(∀a∈(dS f a0 j s).1,A a)∧B (dS f a0 j s).2
 |0=>⟨fun a ha=>by rw[show a=a0 by simpa[dS]using ha];exact h0,hs⟩
 |j+1=>by
  have ih:=Fa h0 hf hs j;unfold dS;cases (dS f a0 j s).2.2 with
  |true=>exact ih
  |false=>
   refine⟨fun a ha=> ?_,(hf _ ih.2).2⟩;rcases List.mem_append.1 (show a∈(dS f a0 j s).1++[(f (dS f a0 j s).2).1] from ha)with h|h
   ·exact ih.1 a h
   ·rw[List.mem_singleton.1 h];exact(hf _ ih.2).1
theorem Nw{fb fn:Dp→Int×Dp}{fd:Nat→Dp→List Int×Dp}{e:aB}{B:Dp→Prop}(hb:∀s,B s→B (fb s).2)(hn:∀s,B s→B (fn s).2)(hd:∀n s,B s→B (fd n s).2){s:Dp}(hs:B s):(uw fb fn fd e s).1.2.2.2.2.length≤4∧B (uw fb fn fd e s).2:=by
 have h1:=hb s hs;have h2:B (o7 fb (fb s).1 (fb s).2).2:=by unfold o7;cases aG (fb s).1 with|true=>exact hb _ h1|false=>exact h1
 have h3:B (pV fn (fb s).1 (o7 fb (fb s).1 (fb s).2).2).2:=by unfold pV;cases aM (fb s).1 with|true=>exact hn _ h2|false=>exact h2
 have h4:B (qG fb (fb s).1 (pV fn (fb s).1 (o7 fb (fb s).1 (fb s).2).2).2).2:=by
  unfold qG;cases (fb s).1==8 with
  |true=>exact h3
  |false=>
   cases (fb s).1==10 with
   |true=>exact hb _ h3
   |false=>cases (fb s).1==11 with|true=>exact h3|false=>exact h3
 have h5:=hd (qG fb (fb s).1 (pV fn (fb s).1 (o7 fb (fb s).1 (fb s).2).2).2).1.toNat _ h4;refine⟨?_,?_⟩
 ·have:=cZ (fb s).1 (sD fb (fb s).1 (fd (qG fb (fb s).1 (pV fn (fb s).1 (o7 fb (fb s).1 (fb s).2).2).2).1.toNat (qG fb (fb s).1 (pV fn (fb s).1 (o7 fb (fb s).1 (fb s).2).2).2).2).2).1;show(List.replicate (aL (fb s).1 (sD fb (fb s).1 _).1).toNat e).length≤4;rw[List.length_replicate];omega
 ·show B (sD fb (fb s).1 _).2;unfold sD;cases (fb s).1==9 with|true=>exact hb _ h5|false=>exact h5
theorem TT{cs:List Int}{s:Dp}(h:s.1≤cs.length):(kJ cs s).1.2.2.2.2.length≤4∧(kJ cs s).2.1≤cs.length:=Nw (B:=fun s:Dp=>s.1≤cs.length) (fun _ h=>iF h) (fun _ h=>oH h) (fun n _ h=>ou h n) h
theorem Uc{cs:List Int}{s:Dp}(h:s.1≤cs.length):(gV cs s).1.2.2.2.2.length≤4∧(gV cs s).2.1≤cs.length:=Nw (B:=fun s:Dp=>s.1≤cs.length) (fun _ h=>gM h) (fun _ h=>nE h) (fun n _ h=>ow h n) h
theorem Lm{xs:List ah}(h1:xs.length≤1000000)(h2:∀a∈xs,a.2.2.2.2.length≤4):uQ xs:=⟨h1,fun i hi=>by
 refine h2 _ ?_;unfold ak elt;rw[show((i:Nat):Int).toNat=i by omega,List.getD_eq_getElem?_getD,List.getElem?_eq_getElem hi];exact List.getElem_mem hi⟩
def fu:ah:=(1,0,0,[],[(0,0)])
def Aa(n:Int):Bool:=decide (n<1)||decide (600<n)
def oK(cs:List Int)(s:Dp):Dp:=((jE cs s).2.1,(jE cs s).2.2||Aa (jE cs s).1)
def iI(cs:List Int)(s:Dp):List ah×Dp:=dS (kJ cs) fu ((jE cs s).1.toNat-1) (oK cs s)
noncomputable def jP(cs:List Int)(s:Dp):List ah×Dp:=
 ((rM cs (bF (iI cs s).1) (iI cs s).1 [] (iI cs s).2).1,((rM cs (bF (iI cs s).1) (iI cs s).1 [] (iI cs s).2).2.1,(rM cs (bF (iI cs s).1) (iI cs s).1 [] (iI cs s).2).2.2|| !gW (gN (rM cs (bF (iI cs s).1) (iI cs s).1 [] (iI cs s).2).1)))
theorem TB(xs:List ah)(us:List Value):aC Try.prog 43 [.agg [.sl 10000]] [.row 10000 64 5 aV xs us] (.bool (gW (gN xs))) [.row 10000 64 5 aV xs us]:=
 aC.Cg aS [25] Pq (Vu xs) rfl
theorem VI{cs:List Int}{s:Dp}(h:s.1≤cs.length):(oK cs s).1≤cs.length:=oH h
theorem II{n:Int}(h:Aa n=false):1≤n∧n≤600:=by
 unfold Aa at h;rw[Bool.or_eq_false_iff,decide_eq_false_iff_not,decide_eq_false_iff_not]at h;omega
theorem Dr{cs:List Int}{s:Dp}(h:s.1≤cs.length)(j:Nat):(∀a∈(dS (kJ cs) fu j (oK cs s)).1,a.2.2.2.2.length≤4)∧(dS (kJ cs) fu j (oK cs s)).2.1≤cs.length:=
 Fa (A:=fun a=>a.2.2.2.2.length≤4) (B:=fun s:Dp=>s.1≤cs.length) (by decide) (fun s h=>TT h) (VI h) j
theorem qp{f:Dp→ah×Dp}{a0:ah}{s:Dp}(h:s.2=true)(j:Nat):dS f a0 j s=([a0],s):=by
 have:=xA (f:=f) (a0:=a0) (s:=s) (j:=0) h j
 rwa[Nat.zero_add]at this
theorem QS{cs:List Int}{s:Dp}(h:s.1≤cs.length):uQ (iI cs s).1:=by
 refine Lm ?_ (Dr h _).1;unfold iI;cases hb:(oK cs s).2 with
 |true=>rw[qp hb];show 1≤1000000;decide
 |false=>
  have hb':((jE cs s).2.2||Aa (jE cs s).1)=false:=hb;rw[Bool.or_eq_false_iff]at hb';have:=II hb'.2;have:=(Fb (kJ cs) fu (oK cs s) ((jE cs s).1.toNat-1)).2;omega
theorem RB(cs:List Int)(hb:mK cs)(s:Dp)(hs:s.1≤cs.length):aC Try.prog 22 [.ptr 10000 0] [cD cs s] (.agg [.sl 10001]) [cD cs (jP cs s).2,.row 10001 64 5 aV (jP cs s).1 []]:=by
 have hlen:=hb.len;have hw1:=tq cs hb s hs;have hat:=fun j=>Dr hs j
 have hln:=fun j=>Fb (kJ cs) fu (oK cs s) j
 have hsm:=QS hs;have hpos:(iI cs s).2.1≤cs.length:=(hat _).2;have hwi:=YI cs hb (iI cs s).1 hsm (iI cs s).2 hpos;obtain⟨c,hc⟩:∃c,c=(jE cs s).1:=⟨_,rfl⟩;obtain⟨W,hW⟩:∃W,W=rM cs (bF (iI cs s).1) (iI cs s).1 [] (iI cs s).2:=⟨_,rfl⟩;have hne:jP cs s=(W.1,(W.2.1,W.2.2|| !gW (gN W.1))):=by unfold jP;rw[hW]
 rw[←hW]at hwi;have hst:oK cs s=((jE cs s).2.1,(jE cs s).2.2||Aa c):=by rw[hc];rfl
 have hag:iI cs s=dS (kJ cs) fu (c.toNat-1) (oK cs s):=by rw[hc];rfl
 rw[←hc]at hw1
 have hcb:(oK cs s).2=false→1≤c∧c≤600:=fun h=>by
  rw[hst]at h;have h:((jE cs s).2.2||Aa c)=false:=h;rw[Bool.or_eq_false_iff]at h;exact II h.2
 have hbd:(bif decide (c<1)then true else decide (600<c))=Aa c:=by rw[gG];rfl
 refine aC.intro (nt:=55) aS mixed (by kernel_rfl) Try.func22 rfl rfl rfl rfl rfl rfl ?_;refine aI (by decide) ?_;refine Or.inr (eI _ (eI _ (aI hw1 ?_)));refine aI (fun q0=> ?_) (fun q0=> ?_)
 ·have q0:(bif decide (c<1)then true else decide (600<c))=true:=q0;rw[hbd]at q0;have hS:true=(oK cs s).2:=by rw[hst,q0];exact(Bool.or_true _).symm
  refine lp Nat (fun j=>[(5,.int .i64 ((1+j:Nat):Int))]) (fun j=>[.bT 2 25 [.raw (.slice none 0 0)],.bT 3 25 [.sl 20000],cD cs (dS (kJ cs) fu j (oK cs s)).2,.row 20000 64 5 aV (dS (kJ cs) fu j (oK cs s)).1 []]) (fun j=>c.toNat-j) (fun j=>j≤c.toNat-1) 0 (Nat.zero_le _) ?_ ?_
  ·exact Go.Tr.hd [(20000,8)] rfl (aI ⟨rfl,rfl⟩ trivial) ⟨trivial,⟨rfl,trivial⟩,trivial,⟨rfl,trivial⟩,trivial,⟨rfl,⟨rfl,rfl⟩,hS,trivial⟩,⟨rfl,nP⟩,trivial⟩
  intro j hj;have hat:=hat j;have hln:=hln j;refine aI (fun q=> ?_) (fun q=> ?_)
  ·have q:(bif decide (((1+j:Nat):Int)<c)then !(dS (kJ cs) fu j (oK cs s)).2.2 else false)=true:=q;rw[aY,Bool.and_eq_true,decide_eq_true_eq]at q;have hnb:(dS (kJ cs) fu j (oK cs s)).2.2=false:=by simpa using q.2
   have hs2:(oK cs s).2=false:=by
    cases h:(oK cs s).2 with
    |false=>rfl
    |true=>rw[qp h]at hnb;rw[show([fu],oK cs s).2.2=(oK cs s).2 from rfl,h]at hnb;cases hnb
   have hc2:=hcb hs2;have hlt:1+j<c.toNat:=by omega
   have e:dS (kJ cs) fu (j+1) (oK cs s)=((dS (kJ cs) fu j (oK cs s)).1++[(kJ cs (dS (kJ cs) fu j (oK cs s)).2).1],(kJ cs (dS (kJ cs) fu j (oK cs s)).2).2):=by rw[dS,hnb];rfl
   have e2:=congrArg Prod.fst e;have e3:=congrArg Prod.snd e;refine Or.inr (eI _ (eI _ (aI (Wj cs hb _ hat.2) ?_)));refine aI (by show(dS (kJ cs) fu j (oK cs s)).1.length+1≤_;omega) ?_;refine aI (by kernel_rfl) ?_;refine aK (j+1) (by show j+1≤c.toNat-1;omega) ?_ (by show c.toNat-(j+1)<c.toNat-j;omega);exact Go.Tr.hd [(20000,38)] rfl (aI ⟨bD (by omega),rfl⟩ trivial) ⟨trivial,⟨rfl,trivial⟩,trivial,⟨rfl,trivial⟩,trivial,⟨rfl,⟨congrArg (fun s:Dp=>((s.1:Nat):Int)) e3.symm,rfl⟩,congrArg Prod.snd e3.symm,trivial⟩,⟨e2.symm,nP⟩,trivial⟩
  have q:(bif decide (((1+j:Nat):Int)<c)then !(dS (kJ cs) fu j (oK cs s)).2.2 else false)=false:=q;rw[aY,Bool.and_eq_false_iff,decide_eq_false_iff_not]at q
  have hfin:iI cs s=dS (kJ cs) fu j (oK cs s):=by
   rw[hag];rcases q with q|q'
   ·rw[show c.toNat-1=j by omega]
   ·have hB:(dS (kJ cs) fu j (oK cs s)).2.2=true:=by simpa using q'
    have:=xA hB (c.toNat-1-j)
    rwa[show j+(c.toNat-1-j)=c.toNat-1 by omega]at this
  rw[hfin]at hwi;refine Or.inr (eI _ (eI _ (aI hwi ?_)));rw[hne];cases hb2:W.2.2 with
  |true=>
   have hv:(bif W.2.2 then true else !false)=(true|| !gW (gN W.1)):=by rw[hb2];rfl
   refine Or.inr (aI (fun gg=>absurd gg (by show ¬(!W.2.2)=true;rw[hb2];decide)) (fun _=> ?_));refine eI (.bool false) ?_;exact fin [(10001,20000)] (aI rfl ⟨trivial,⟨rfl,⟨rfl,rfl⟩,hv,trivial⟩,⟨rfl,nP⟩,trivial⟩)
  |false=>
   have hv:(bif W.2.2 then true else !gW (gN W.1))=(false|| !gW (gN W.1)):=by rw[hb2];rfl
   refine Or.inr (aI (fun _=> ?_) (fun gg=>absurd gg (by show ¬(!W.2.2)=false;rw[hb2];decide)));refine eI _ (eI _ (aI (TB W.1 []) ?_));exact fin [(10001,20000)] (aI rfl ⟨trivial,⟨rfl,⟨rfl,rfl⟩,hv,trivial⟩,⟨rfl,nP⟩,trivial⟩)
 ·have q0:(bif decide (c<1)then true else decide (600<c))=false:=q0;rw[hbd]at q0;have hS:(jE cs s).2.2=(oK cs s).2:=by rw[hst,q0];exact(Bool.or_false _).symm
  refine lp Nat (fun j=>[(5,.int .i64 ((1+j:Nat):Int))]) (fun j=>[.bT 2 25 [.raw (.slice none 0 0)],.bT 3 25 [.sl 20000],cD cs (dS (kJ cs) fu j (oK cs s)).2,.row 20000 64 5 aV (dS (kJ cs) fu j (oK cs s)).1 []]) (fun j=>c.toNat-j) (fun j=>j≤c.toNat-1) 0 (Nat.zero_le _) ?_ ?_
  ·exact Go.Tr.hd [(20000,8)] rfl (aI ⟨rfl,rfl⟩ trivial) ⟨trivial,⟨rfl,trivial⟩,trivial,⟨rfl,trivial⟩,trivial,⟨rfl,⟨rfl,rfl⟩,hS,trivial⟩,⟨rfl,nP⟩,trivial⟩
  intro j hj;have hat:=hat j;have hln:=hln j;refine aI (fun q=> ?_) (fun q=> ?_)
  ·have q:(bif decide (((1+j:Nat):Int)<c)then !(dS (kJ cs) fu j (oK cs s)).2.2 else false)=true:=q;rw[aY,Bool.and_eq_true,decide_eq_true_eq]at q;have hnb:(dS (kJ cs) fu j (oK cs s)).2.2=false:=by simpa using q.2
   have hs2:(oK cs s).2=false:=by
    cases h:(oK cs s).2 with
    |false=>rfl
    |true=>rw[qp h]at hnb;rw[show([fu],oK cs s).2.2=(oK cs s).2 from rfl,h]at hnb;cases hnb
   have hc2:=hcb hs2;have hlt:1+j<c.toNat:=by omega
   have e:dS (kJ cs) fu (j+1) (oK cs s)=((dS (kJ cs) fu j (oK cs s)).1++[(kJ cs (dS (kJ cs) fu j (oK cs s)).2).1],(kJ cs (dS (kJ cs) fu j (oK cs s)).2).2):=by rw[dS,hnb];rfl
   have e2:=congrArg Prod.fst e;have e3:=congrArg Prod.snd e;refine Or.inr (eI _ (eI _ (aI (Wj cs hb _ hat.2) ?_)));refine aI (by show(dS (kJ cs) fu j (oK cs s)).1.length+1≤_;omega) ?_;refine aI (by kernel_rfl) ?_;refine aK (j+1) (by show j+1≤c.toNat-1;omega) ?_ (by show c.toNat-(j+1)<c.toNat-j;omega);exact Go.Tr.hd [(20000,38)] rfl (aI ⟨bD (by omega),rfl⟩ trivial) ⟨trivial,⟨rfl,trivial⟩,trivial,⟨rfl,trivial⟩,trivial,⟨rfl,⟨congrArg (fun s:Dp=>((s.1:Nat):Int)) e3.symm,rfl⟩,congrArg Prod.snd e3.symm,trivial⟩,⟨e2.symm,nP⟩,trivial⟩
  have q:(bif decide (((1+j:Nat):Int)<c)then !(dS (kJ cs) fu j (oK cs s)).2.2 else false)=false:=q;rw[aY,Bool.and_eq_false_iff,decide_eq_false_iff_not]at q
  have hfin:iI cs s=dS (kJ cs) fu j (oK cs s):=by
   rw[hag];rcases q with q|q'
   ·rw[show c.toNat-1=j by omega]
   ·have hB:(dS (kJ cs) fu j (oK cs s)).2.2=true:=by simpa using q'
    have:=xA hB (c.toNat-1-j)
    rwa[show j+(c.toNat-1-j)=c.toNat-1 by omega]at this
  rw[hfin]at hwi;refine Or.inr (eI _ (eI _ (aI hwi ?_)));rw[hne];cases hb2:W.2.2 with
  |true=>
   have hv:(bif W.2.2 then true else !false)=(true|| !gW (gN W.1)):=by rw[hb2];rfl
   refine Or.inr (aI (fun gg=>absurd gg (by show ¬(!W.2.2)=true;rw[hb2];decide)) (fun _=> ?_));refine eI (.bool false) ?_;exact fin [(10001,20000)] (aI rfl ⟨trivial,⟨rfl,⟨rfl,rfl⟩,hv,trivial⟩,⟨rfl,nP⟩,trivial⟩)
  |false=>
   have hv:(bif W.2.2 then true else !gW (gN W.1))=(false|| !gW (gN W.1)):=by rw[hb2];rfl
   refine Or.inr (aI (fun _=> ?_) (fun gg=>absurd gg (by show ¬(!W.2.2)=false;rw[hb2];decide)));refine eI _ (eI _ (aI (TB W.1 []) ?_));exact fin [(10001,20000)] (aI rfl ⟨trivial,⟨rfl,⟨rfl,rfl⟩,hv,trivial⟩,⟨rfl,nP⟩,trivial⟩)
def zig(n:Int):Int:=bif decide (n<0)then -2*n-1 else 2*n
def encZ:Nat→Int→List Int
 |0,z=>[z]
 |f+1,z=>bif decide (128≤z)then(z % 128+128)::encZ f (z/128)else[z]
def aX(n:Int):List Int:=encZ 5 (zig n)
theorem Gc:∀(f:Nat) (z:Int),(encZ f z).length≤f+1
 |0,_=>Nat.le_refl _
 |f+1,z=>by
  have ih:=Gc f (z/128);unfold encZ;cases decide (128≤z)with
  |true=>show(_::encZ f (z/128)).length≤_;rw[List.length_cons];omega
  |false=>show 1≤_;omega
theorem dw(n:Int):(aX n).length≤6:=Gc 5 _
theorem Io{x:Int}(h0:0≤x)(h1:x≤255):IntKind.u8.wrap x=x:=by
 unfold IntKind.wrap;simp[IntKind.signed,IntKind.bits];omega
theorem Ph:bY Try.prog 53=true:=by kernel_rfl
theorem pF(b:List Int)(hb:b.length≤1000000)(n:Int)(hn:eH n=true):aC Try.prog 53 [.sl 10000,.int .i64 n] (tB 10000 b) (.sl 10001) (tB 10001 (b++aX n)):=by
 have hi:=jl hn;refine aC.intro (nt:=29) aS mixed Ph Try.func53 rfl rfl rfl rfl rfl rfl ?_;refine aI (fun q=> ?_) (fun q=> ?_)
 ·have q:decide (n<0)=true:=q
  have hz:IntKind.i64.wrap (IntKind.i64.wrap (-2*n)-1)=zig n:=by
   have:=of_decide_eq_true q;unfold zig;rw[q,IntWalk.i64_in (-2*n) (by omega),IntWalk.i64_in _ (by omega)];rfl
  have z0:0≤zig n∧zig n<128 ^ 5:=by
   have:=of_decide_eq_true q;rw[show zig n= -2*n-1 by unfold zig;rw[q];rfl,show(128:Int) ^ 5=34359738368 by decide];omega
  refine lp (Nat×Int×List Int) (fun s=>[(0,.sl 20000),(5,.int .i64 s.2.1)]) (fun s=>tB 20000 s.2.2) (fun s=>s.1) (fun s=>s.1≤5∧0≤s.2.1∧s.2.1<128 ^ s.1∧s.2.2++encZ s.1 s.2.1=b++aX n∧s.2.2.length+s.1≤1000005) (5,zig n,b) ⟨Nat.le_refl _,z0.1,z0.2,rfl,by show b.length+5≤_;omega⟩ ?_ ?_
  ·exact Go.Tr.hd [(20000,10000)] rfl (aI rfl (aI ⟨hz,rfl⟩ trivial)) ⟨⟨rfl,nP⟩,trivial⟩
  rintro⟨f,z,c⟩ ⟨hf,z0,z1,hc,hl⟩;have hf:f≤5:=hf;have z0:0≤z:=z0;have z1:z<128 ^ f:=z1;have hc:c++encZ f z=b++aX n:=hc;have hl:c.length+f≤1000005:=hl;refine aI (fun q1=> ?_) (fun q1=> ?_)
  ·have q1:decide (128≤z)=true:=q1;have hz1:=of_decide_eq_true q1
   match f,hf,z1,hc,hl with
   |0,_,z1,_,_=>have:z<1:=z1;omega
   |f+1,hf,z1,hc,hl=>
    have hp:(128:Int) ^ (f+1)=128 ^ f*128:=Int.pow_succ _ _;have hp4:=yI (j:=f) (by omega);have hzb:z<34359738368:=by have:=z1;rw[hp]at this;omega
    have e1:IntKind.u8.wrap (IntKind.u8.wrap (z.tmod 128)+128)=z % 128+128:=by rw[yD z0,Io (x:=z % 128) (by omega) (by omega),Io (by omega) (by omega)]
    have e2:IntKind.i64.wrap (z.tdiv 128)=z/128:=by rw[Int.tdiv_eq_ediv_of_nonneg z0,IntWalk.i64_in (z/128) (by omega)]
    refine aI (by decide) ?_;refine aI (by show c.length+1≤_;omega) ?_;refine aI (by decide) ?_;refine aK (f,z/128,c++[z % 128+128]) ⟨by show f≤5;omega,by show 0≤z/128;omega,by show z/128<128 ^ f;omega,?_,by show(c++[z % 128+128]).length+f≤_;rw[List.length_append,List.length_singleton];omega⟩ ?_ (Nat.lt_succ_self f)
    ·show(c++[z % 128+128])++encZ f (z/128)=_;rw[←hc,encZ,q1,List.append_assoc];rfl
    ·exact Go.Tr.hd [(20000,21)] rfl (aI rfl (aI ⟨e2,rfl⟩ trivial)) ⟨⟨by show c++[_]=c++[_];rw[e1],nP⟩,trivial⟩
  ·have q1:decide (128≤z)=false:=q1;have hz1:=of_decide_eq_false q1
   have he:encZ f z=[z]:=by
    cases f with
    |zero=>rfl
    |succ f=>rw[encZ,q1];rfl
   rw[he]at hc;refine aI (by show c.length+1≤_;omega) ?_;rw[←hc];exact fin [(10001,28)] (aI rfl ⟨⟨by show c++[_]=c++[_];rw[Io z0 (by omega)],nP⟩,trivial⟩)
 ·have q:decide (n<0)=false:=q
  have hz:IntKind.i64.wrap (2*n)=zig n:=by
   have:=of_decide_eq_false q;unfold zig;rw[q,IntWalk.i64_in (2*n) (by omega)];rfl
  have z0:0≤zig n∧zig n<128 ^ 5:=by
   have:=of_decide_eq_false q;rw[show zig n=2*n by unfold zig;rw[q];rfl,show(128:Int) ^ 5=34359738368 by decide];omega
  refine lp (Nat×Int×List Int) (fun s=>[(0,.sl 20000),(5,.int .i64 s.2.1)]) (fun s=>tB 20000 s.2.2) (fun s=>s.1) (fun s=>s.1≤5∧0≤s.2.1∧s.2.1<128 ^ s.1∧s.2.2++encZ s.1 s.2.1=b++aX n∧s.2.2.length+s.1≤1000005) (5,zig n,b) ⟨Nat.le_refl _,z0.1,z0.2,rfl,by show b.length+5≤_;omega⟩ ?_ ?_
  ·exact Go.Tr.hd [(20000,10000)] rfl (aI rfl (aI ⟨hz,rfl⟩ trivial)) ⟨⟨rfl,nP⟩,trivial⟩
  rintro⟨f,z,c⟩ ⟨hf,z0,z1,hc,hl⟩;have hf:f≤5:=hf;have z0:0≤z:=z0;have z1:z<128 ^ f:=z1;have hc:c++encZ f z=b++aX n:=hc;have hl:c.length+f≤1000005:=hl;refine aI (fun q1=> ?_) (fun q1=> ?_)
  ·have q1:decide (128≤z)=true:=q1;have hz1:=of_decide_eq_true q1
   match f,hf,z1,hc,hl with
   |0,_,z1,_,_=>have:z<1:=z1;omega
   |f+1,hf,z1,hc,hl=>
    have hp:(128:Int) ^ (f+1)=128 ^ f*128:=Int.pow_succ _ _;have hp4:=yI (j:=f) (by omega);have hzb:z<34359738368:=by have:=z1;rw[hp]at this;omega
    have e1:IntKind.u8.wrap (IntKind.u8.wrap (z.tmod 128)+128)=z % 128+128:=by rw[yD z0,Io (x:=z % 128) (by omega) (by omega),Io (by omega) (by omega)]
    have e2:IntKind.i64.wrap (z.tdiv 128)=z/128:=by rw[Int.tdiv_eq_ediv_of_nonneg z0,IntWalk.i64_in (z/128) (by omega)]
    refine aI (by decide) ?_;refine aI (by show c.length+1≤_;omega) ?_;refine aI (by decide) ?_;refine aK (f,z/128,c++[z % 128+128]) ⟨by show f≤5;omega,by show 0≤z/128;omega,by show z/128<128 ^ f;omega,?_,by show(c++[z % 128+128]).length+f≤_;rw[List.length_append,List.length_singleton];omega⟩ ?_ (Nat.lt_succ_self f)
    ·show(c++[z % 128+128])++encZ f (z/128)=_;rw[←hc,encZ,q1,List.append_assoc];rfl
    ·exact Go.Tr.hd [(20000,21)] rfl (aI rfl (aI ⟨e2,rfl⟩ trivial)) ⟨⟨by show c++[_]=c++[_];rw[e1],nP⟩,trivial⟩
  ·have q1:decide (128≤z)=false:=q1;have hz1:=of_decide_eq_false q1
   have he:encZ f z=[z]:=by
    cases f with
    |zero=>rfl
    |succ f=>rw[encZ,q1];rfl
   rw[he]at hc;refine aI (by show c.length+1≤_;omega) ?_;rw[←hc];exact fin [(10001,28)] (aI rfl ⟨⟨by show c++[_]=c++[_];rw[Io z0 (by omega)],nP⟩,trivial⟩)
theorem SE(n:Int)(hn:eH n=true):aC Try.prog 53 [.raw (.slice none 0 0),.int .i64 n] [] (.sl 10000) (tB 10000 (([]:List Int)++aX n)):=by
 have hb:([]:List Int).length≤1000000:=by decide
 have hi:=jl hn;refine aC.intro (nt:=29) aS mixed Ph Try.func53 rfl rfl rfl rfl rfl rfl ?_;refine aI (fun q=> ?_) (fun q=> ?_)
 ·have q:decide (n<0)=true:=q
  have hz:IntKind.i64.wrap (IntKind.i64.wrap (-2*n)-1)=zig n:=by
   have:=of_decide_eq_true q;unfold zig;rw[q,IntWalk.i64_in (-2*n) (by omega),IntWalk.i64_in _ (by omega)];rfl
  have z0:0≤zig n∧zig n<128 ^ 5:=by
   have:=of_decide_eq_true q;rw[show zig n= -2*n-1 by unfold zig;rw[q];rfl,show(128:Int) ^ 5=34359738368 by decide];omega
  refine lp (Nat×Int×List Int) (fun s=>[(0,.sl 20000),(5,.int .i64 s.2.1)]) (fun s=>tB 20000 s.2.2) (fun s=>s.1) (fun s=>s.1≤5∧0≤s.2.1∧s.2.1<128 ^ s.1∧s.2.2++encZ s.1 s.2.1=([]:List Int)++aX n∧s.2.2.length+s.1≤1000005) (5,zig n,([]:List Int)) ⟨Nat.le_refl _,z0.1,z0.2,rfl,by show([]:List Int).length+5≤_;omega⟩ ?_ ?_
  ·exact vo [⟨0,30000,5,1,bn⟩] [(20000,30000)] rfl (aI (aI rfl (aI ⟨hz,rfl⟩ trivial)) ⟨⟨rfl,nP⟩,trivial⟩)
  rintro⟨f,z,c⟩ ⟨hf,z0,z1,hc,hl⟩;have hf:f≤5:=hf;have z0:0≤z:=z0;have z1:z<128 ^ f:=z1;have hc:c++encZ f z=([]:List Int)++aX n:=hc;have hl:c.length+f≤1000005:=hl;refine aI (fun q1=> ?_) (fun q1=> ?_)
  ·have q1:decide (128≤z)=true:=q1;have hz1:=of_decide_eq_true q1
   match f,hf,z1,hc,hl with
   |0,_,z1,_,_=>have:z<1:=z1;omega
   |f+1,hf,z1,hc,hl=>
    have hp:(128:Int) ^ (f+1)=128 ^ f*128:=Int.pow_succ _ _;have hp4:=yI (j:=f) (by omega);have hzb:z<34359738368:=by have:=z1;rw[hp]at this;omega
    have e1:IntKind.u8.wrap (IntKind.u8.wrap (z.tmod 128)+128)=z % 128+128:=by rw[yD z0,Io (x:=z % 128) (by omega) (by omega),Io (by omega) (by omega)]
    have e2:IntKind.i64.wrap (z.tdiv 128)=z/128:=by rw[Int.tdiv_eq_ediv_of_nonneg z0,IntWalk.i64_in (z/128) (by omega)]
    refine aI (by decide) ?_;refine aI (by show c.length+1≤_;omega) ?_;refine aI (by decide) ?_;refine aK (f,z/128,c++[z % 128+128]) ⟨by show f≤5;omega,by show 0≤z/128;omega,by show z/128<128 ^ f;omega,?_,by show(c++[z % 128+128]).length+f≤_;rw[List.length_append,List.length_singleton];omega⟩ ?_ (Nat.lt_succ_self f)
    ·show(c++[z % 128+128])++encZ f (z/128)=_;rw[←hc,encZ,q1,List.append_assoc];rfl
    ·exact Go.Tr.hd [(20000,21)] rfl (aI rfl (aI ⟨e2,rfl⟩ trivial)) ⟨⟨by show c++[_]=c++[_];rw[e1],nP⟩,trivial⟩
  ·have q1:decide (128≤z)=false:=q1;have hz1:=of_decide_eq_false q1
   have he:encZ f z=[z]:=by
    cases f with
    |zero=>rfl
    |succ f=>rw[encZ,q1];rfl
   rw[he]at hc;refine aI (by show c.length+1≤_;omega) ?_;rw[←hc];exact fin [(10000,28)] (aI rfl ⟨⟨by show c++[_]=c++[_];rw[Io z0 (by omega)],nP⟩,trivial⟩)
 ·have q:decide (n<0)=false:=q
  have hz:IntKind.i64.wrap (2*n)=zig n:=by
   have:=of_decide_eq_false q;unfold zig;rw[q,IntWalk.i64_in (2*n) (by omega)];rfl
  have z0:0≤zig n∧zig n<128 ^ 5:=by
   have:=of_decide_eq_false q;rw[show zig n=2*n by unfold zig;rw[q];rfl,show(128:Int) ^ 5=34359738368 by decide];omega
  refine lp (Nat×Int×List Int) (fun s=>[(0,.sl 20000),(5,.int .i64 s.2.1)]) (fun s=>tB 20000 s.2.2) (fun s=>s.1) (fun s=>s.1≤5∧0≤s.2.1∧s.2.1<128 ^ s.1∧s.2.2++encZ s.1 s.2.1=([]:List Int)++aX n∧s.2.2.length+s.1≤1000005) (5,zig n,([]:List Int)) ⟨Nat.le_refl _,z0.1,z0.2,rfl,by show([]:List Int).length+5≤_;omega⟩ ?_ ?_
  ·exact vo [⟨0,30000,5,1,bn⟩] [(20000,30000)] rfl (aI (aI rfl (aI ⟨hz,rfl⟩ trivial)) ⟨⟨rfl,nP⟩,trivial⟩)
  rintro⟨f,z,c⟩ ⟨hf,z0,z1,hc,hl⟩;have hf:f≤5:=hf;have z0:0≤z:=z0;have z1:z<128 ^ f:=z1;have hc:c++encZ f z=([]:List Int)++aX n:=hc;have hl:c.length+f≤1000005:=hl;refine aI (fun q1=> ?_) (fun q1=> ?_)
  ·have q1:decide (128≤z)=true:=q1;have hz1:=of_decide_eq_true q1
   match f,hf,z1,hc,hl with
   |0,_,z1,_,_=>have:z<1:=z1;omega
   |f+1,hf,z1,hc,hl=>
    have hp:(128:Int) ^ (f+1)=128 ^ f*128:=Int.pow_succ _ _;have hp4:=yI (j:=f) (by omega);have hzb:z<34359738368:=by have:=z1;rw[hp]at this;omega
    have e1:IntKind.u8.wrap (IntKind.u8.wrap (z.tmod 128)+128)=z % 128+128:=by rw[yD z0,Io (x:=z % 128) (by omega) (by omega),Io (by omega) (by omega)]
    have e2:IntKind.i64.wrap (z.tdiv 128)=z/128:=by rw[Int.tdiv_eq_ediv_of_nonneg z0,IntWalk.i64_in (z/128) (by omega)]
    refine aI (by decide) ?_;refine aI (by show c.length+1≤_;omega) ?_;refine aI (by decide) ?_;refine aK (f,z/128,c++[z % 128+128]) ⟨by show f≤5;omega,by show 0≤z/128;omega,by show z/128<128 ^ f;omega,?_,by show(c++[z % 128+128]).length+f≤_;rw[List.length_append,List.length_singleton];omega⟩ ?_ (Nat.lt_succ_self f)
    ·show(c++[z % 128+128])++encZ f (z/128)=_;rw[←hc,encZ,q1,List.append_assoc];rfl
    ·exact Go.Tr.hd [(20000,21)] rfl (aI rfl (aI ⟨e2,rfl⟩ trivial)) ⟨⟨by show c++[_]=c++[_];rw[e1],nP⟩,trivial⟩
  ·have q1:decide (128≤z)=false:=q1;have hz1:=of_decide_eq_false q1
   have he:encZ f z=[z]:=by
    cases f with
    |zero=>rfl
    |succ f=>rw[encZ,q1];rfl
   rw[he]at hc;refine aI (by show c.length+1≤_;omega) ?_;rw[←hc];exact fin [(10000,28)] (aI rfl ⟨⟨by show c++[_]=c++[_];rw[Io z0 (by omega)],nP⟩,trivial⟩)
def dR(a:ah):List Int:=[IntKind.u8.wrap a.1]++((bif aG a.1 then[IntKind.u8.wrap a.2.1]else[])++((bif aM a.1 then aX a.2.2.1 else[])++((bif a.1==10 then[IntKind.u8.wrap ((a.2.2.2.1.length:Nat):Int)]else[])++(a.2.2.2.1.flatMap aX++(bif a.1==9 then[IntKind.u8.wrap (IntKind.i64.wrap (((a.2.2.2.2.length:Nat):Int)-1))]else[])))))
def kL(xs:List ah)(p:aB):List Int:=bif jq p (aD xs p)then aX (aD xs p).1++[IntKind.u8.wrap (aD xs p).2]else[]
def bZ(xs:List ah):List Int:=aX ((xs.length:Nat):Int)++((xs.drop 1).flatMap dR++(bF xs).flatMap (kL xs))
theorem dx{α:Type}(f:α→List Int)(m:Nat):∀l:List α,(∀x∈l,(f x).length≤m)→(l.flatMap f).length≤l.length*m
 |[],_=>by simp
 |x::l,h=>by
  have ih:=dx f m l fun y hy=>h y (by simp[hy])
  have hx:=h x (by simp);rw[List.flatMap_cons,List.length_append,List.length_cons,Nat.add_mul];omega
theorem FX(b:Bool)(l:List Int)(m:Nat)(h:l.length≤m):(bif b then l else[]).length≤m:=by
 cases b with
 |true=>exact h
 |false=>exact Nat.zero_le _
theorem Ao{a:ah}(h:a.2.2.2.1.length≤4):(dR a).length≤40:=by
 have h1:=dx aX 6 a.2.2.2.1 fun x _=>dw x
 have h2:=FX (aG a.1) [IntKind.u8.wrap a.2.1] 1 (Nat.le_refl _);have h3:=FX (aM a.1) (aX a.2.2.1) 6 (dw _);have h4:=FX (a.1==10) [IntKind.u8.wrap ((a.2.2.2.1.length:Nat):Int)] 1 (Nat.le_refl _);have h5:=FX (a.1==9) [IntKind.u8.wrap (IntKind.i64.wrap (((a.2.2.2.2.length:Nat):Int)-1))] 1 (Nat.le_refl _);unfold dR;simp only[List.length_append,List.length_singleton]at*;omega
theorem Ap(xs:List ah)(p:aB):(kL xs p).length≤7:=by
 have:=dw (aD xs p).1;unfold kL;refine FX _ _ _ ?_;rw[List.length_append,List.length_singleton];omega
theorem d9{α:Type}(f:α→List Int)(l:List α){i:Nat}(h:i<l.length):(l.take (i+1)).flatMap f=(l.take i).flatMap f++f l[i]:=by
 rw[List.take_succ_eq_append_getElem h,List.flatMap_append,List.flatMap_cons,List.flatMap_nil,List.append_nil]
abbrev aN(xs:List ah)(i:Nat):ah:=elt (dflt aV) (List.drop (1:Int).toNat xs) ((i:Nat):Int)
theorem xU{xs:List ah}{i:Nat}(h:i<(xs.drop 1).length):aN xs i=(xs.drop 1)[i]:=by
 unfold aN elt;rw[show((i:Nat):Int).toNat=i by omega,show(1:Int).toNat=1 from rfl,List.getD_eq_getElem?_getD,List.getElem?_eq_getElem h];rfl
theorem Nv{xs:List ah}{i:Nat}(h:i<(xs.drop 1).length):aN xs i=ak xs ((i+1:Nat):Int):=by
 have h':i+1<xs.length:=by rw[List.length_drop]at h;omega
 rw[xU h];unfold ak elt;rw[show((i+1:Nat):Int).toNat=i+1 by omega,List.getD_eq_getElem?_getD,List.getElem?_eq_getElem h'];rw[List.getElem_drop];simp only[Nat.add_comm 1 i];rfl
theorem Ru{n:Int}(h:jr n=true):eH n=true:=by
 have:=jl h;unfold eH iy;rw[Bool.and_eq_true,decide_eq_true_eq,decide_eq_true_eq];omega
theorem sK{n:Int}(h0: -2147483648≤n)(h1:n≤2147483647):eH n=true:=by
 unfold eH iy;rw[Bool.and_eq_true,decide_eq_true_eq,decide_eq_true_eq];exact⟨h0,h1⟩
theorem LX{a:ah}(h:Wf a):(aM a.1=true→eH a.2.2.1=true)∧∀x∈a.2.2.2.1,eH x=true:=by
 have hk:=FB h
 have defs:∀l:List Int,jH l=true→∀x∈l,eH x=true:=fun l hl x hx=>by
  obtain⟨i,hi,rfl⟩:=List.mem_iff_getElem.1 hx;have:=jF hl hi;have e:fM l i=l[i]:=by unfold fM;rw[List.getD_eq_getElem?_getD,List.getElem?_eq_getElem hi];rfl
  rw[e]at this;exact Ru this
 have nil:a.2.2.2.1.length=0→∀x∈a.2.2.2.1,eH x=true:=fun e x hx=>by rw[List.length_eq_zero_iff.1 e]at hx;cases hx
 have hc:=(eU h).2.1;unfold fG at hc;have hop:∀n,jK n=true→eH n=true:=fun n hn=>by have:=jl hn;exact sK (by omega) (by omega)
 rcases(by omega:a.1=6∨a.1=7∨a.1=8∨a.1=9∨a.1=10∨a.1=11∨a.1=12∨(a.1≤5))with e|e|e|e|e|e|e|e
 ·exact⟨fun _=>Iu h e,nil (by simp[gA,e]at hc;simp[hc.1])⟩
 ·exact⟨fun _=>hop _ (LY h e),nil (by simp[gA,e]at hc;simp[hc.1])⟩
 ·obtain⟨h1,h2,h3⟩:=Iw h e;refine⟨fun _=>hop _ h2,fun x hx=> ?_⟩;obtain⟨i,hi,rfl⟩:=List.mem_iff_getElem.1 hx;have hi0:i=0:=by omega
  subst hi0;have e:fM a.2.2.2.1 0=a.2.2.2.1[0]:=by unfold fM;rw[List.getD_eq_getElem?_getD,List.getElem?_eq_getElem hi];rfl
  rw[←e];exact h3
 ·have:=xK h e;exact⟨fun _=>sK (by omega) (by omega),nil (by simp[gA,e]at hc;simp[hc.1])⟩
 ·exact⟨fun hv=>by rw[e]at hv;exact absurd hv (by decide),defs _ (Iq h e).2.2⟩
 ·exact⟨fun hv=>by rw[e]at hv;exact absurd hv (by decide),defs _ (xM h e).2⟩
 ·have:=xL h e;exact⟨fun _=>sK (by omega) (by omega),nil (by simp[gA,e]at hc;simp[hc.1])⟩
 ·refine⟨fun hv=> ?_,nil ?_⟩
  ·unfold aM at hv;simp only[Bool.or_eq_true,beq_iff_eq]at hv;omega
  ·have n6:(a.1==6)=false:=by simp;omega
   have n7:(a.1==7)=false:=by simp;omega
   have n8:(a.1==8)=false:=by simp;omega
   have n9:(a.1==9)=false:=by simp;omega
   have n10:(a.1==10)=false:=by simp;omega
   have n11:(a.1==11)=false:=by simp;omega
   have n12:(a.1==12)=false:=by simp;omega
   simp only[gA,n6,n7,n8,n9,n10,n11,n12]at hc;simp at hc;simp[hc.2]
theorem G5:bY Try.prog 45=true:=by kernel_rfl
theorem GH{a:ah}(h:Wf a)(h1:a.1≠1):(aG a.1=true∧aM a.1=false∧(a.1==10)=false∧(a.1==9)=false)∨(aG a.1=false∧aM a.1=false∧(a.1==10)=false∧(a.1==9)=false)∨(aG a.1=false∧aM a.1=true∧(a.1==10)=false∧(a.1==9)=false)∨(aG a.1=true∧aM a.1=true∧(a.1==10)=false∧(a.1==9)=false)∨(aG a.1=true∧aM a.1=true∧(a.1==10)=false∧(a.1==9)=true)∨(aG a.1=true∧aM a.1=false∧(a.1==10)=true∧(a.1==9)=false):=by
 have hk:=FB h;rcases(by omega:a.1=2∨a.1=3∨a.1=4∨a.1=5∨a.1=6∨a.1=7∨a.1=8∨a.1=9∨a.1=10∨a.1=11∨a.1=12)with e|e|e|e|e|e|e|e|e|e|e<;>rw[e]<;>decide
theorem Wn(b:List Int)(hb:b.length≤900000)(xs:List ah)(hok:jY xs):aC Try.prog 45 [.sl 10000,.agg [.rsl aV xs]] (tB 10000 b) (.sl 10001) (tB 10001 (b++bZ xs)):=by
 have l1:=hok.l1;have l2:=hok.l2;have hsm:=OZ hok;have hel:=dw ((xs.length:Nat):Int);obtain⟨B,hB⟩:∃B,B=b++aX ((xs.length:Nat):Int):=⟨_,rfl⟩;have hBl:B.length≤900006:=by rw[hB,List.length_append];omega
 have hA0:=pF b (by omega) ((xs.length:Nat):Int) (sK (by omega) (by omega));rw[←hB]at hA0;have hdl:(xs.drop 1).length=xs.length-1:=List.length_drop;have hdl2:(List.drop (1:Int).toNat xs).length=xs.length-1:=hdl;have hwf:∀i,i<(xs.drop 1).length→Wf (aN xs i)∧(aN xs i).1≠1:=fun i hi=>by rw[Nv hi];exact⟨hok.wf _ (by omega) (by omega),fun e=>by have:=(hok.rt ((i+1:Nat):Int) (by omega) (by omega)).1 e;omega⟩
 have hCl:∀i,i≤(xs.drop 1).length→(B++((xs.drop 1).take i).flatMap dR).length≤930000:=fun i hi=>by
  have:=dx dR 40 ((xs.drop 1).take i) fun a ha=>by
   obtain⟨j,hj,rfl⟩:=List.mem_iff_getElem.1 (List.mem_of_mem_take ha);rw[←xU hj];exact Ao (wf_data (hwf j hj).1)
  rw[List.length_take]at this;rw[List.length_append];omega
 refine aC.intro (nt:=102) aS mixed G5 Try.func45 rfl rfl rfl rfl rfl rfl ?_;refine Or.inr (eI _ (eI _ (aI hA0 ?_)));refine aI (by show(0:Int)≤1∧(1:Int)≤((xs.length:Nat):Int);omega) ?_;refine lp Nat (fun i=>[(0,.sl 20000),(21,.int .i64 (i:Nat))]) (fun i=>[.bT 3 25 [.rsl aV xs],.row 20000 5 1 bn (B++((xs.drop 1).take i).flatMap dR) []]) (fun i=>(xs.drop 1).length-i) (fun i=>i≤(xs.drop 1).length) 0 (Nat.zero_le _) ?_ ?_
 ·exact Go.Tr.hd [(20000,16)] rfl (aI rfl (aI ⟨rfl,rfl⟩ trivial)) ⟨trivial,⟨rfl,trivial⟩,⟨(List.append_nil _).symm,nP⟩,trivial⟩
 intro i hi;have hCi:=hCl i hi;refine aI (fun q1=> ?_) (fun q1=> ?_)
 ·have hlt:i<(xs.drop 1).length:=qM q1;obtain⟨wf,hk1⟩:=hwf i hlt;obtain⟨hvi,hdi⟩:=LX wf;have hdt:=wf_data wf;have hpt:=(oN wf).2;obtain⟨C,hC⟩:∃C,C=B++((xs.drop 1).take i).flatMap dR:=⟨_,rfl⟩;rw[←hC]at hCi;have hC2:B++((xs.drop 1).take (i+1)).flatMap dR=C++dR (aN xs i):=by rw[d9 dR (xs.drop 1) hlt,←List.append_assoc,←hC,xU hlt]
  refine aI ⟨by omega,by show((i:Nat):Int)<(((List.drop (1:Int).toNat xs).length:Nat):Int);omega⟩ ?_;refine aI (by show(B++((xs.drop 1).take i).flatMap dR).length+1≤_;rw[←hC];omega) ?_;rcases GH wf hk1 with⟨hl,hv,h10,h9⟩|⟨hl,hv,h10,h9⟩|⟨hl,hv,h10,h9⟩|⟨hl,hv,h10,h9⟩|⟨hl,hv,h10,h9⟩|⟨hl,hv,h10,h9⟩
  ·refine Or.inl (eI _ (aI (eT _) ?_));refine aI (fun _=> ?_) (fun q=>by have q:(aG (aN xs i).1)=false:=q;rw[hl]at q;cases q);refine aI (by show((B++((xs.drop 1).take i).flatMap dR)++[IntKind.u8.wrap (aN xs i).1]).length+1≤_;rw[←hC];simp only[List.length_append,List.length_singleton];omega) ?_;refine Or.inl (eI _ (aI (ku _) ?_));refine aI (fun q=>by have q:(aM (aN xs i).1)=true:=q;rw[hv]at q;cases q) (fun _=> ?_);refine aI (fun q=>by have q:((aN xs i).1==10)=true:=q;rw[h10]at q;cases q) (fun _=> ?_);refine lp Nat (fun j=>[(0,.sl 21000),(60,.int .i64 (j:Nat))]) (fun j=>[.bT 3 25 [.rsl aV xs],.bT 6 64 [.int .i64 (aN xs i).1,.int .i64 (aN xs i).2.1,.int .i64 (aN xs i).2.2.1,.rsl (.int .i64) (aN xs i).2.2.2.1,.rsl aQ (aN xs i).2.2.2.2],.row 21000 5 1 bn (((C++[IntKind.u8.wrap (aN xs i).1])++[IntKind.u8.wrap (aN xs i).2.1])++((aN xs i).2.2.2.1.take j).flatMap aX) []]) (fun j=>(aN xs i).2.2.2.1.length-j) (fun j=>j≤(aN xs i).2.2.2.1.length) 0 (Nat.zero_le _) ?_ ?_
   ·exact Go.Tr.hd [(21000,39)] rfl (aI rfl (aI ⟨rfl,rfl⟩ trivial)) ⟨trivial,⟨rfl,trivial⟩,trivial,⟨⟨rfl,rfl⟩,⟨rfl,rfl⟩,⟨rfl,rfl⟩,rfl,rfl,trivial⟩,⟨by rw[hC];exact(List.append_nil _).symm,nP⟩,trivial⟩
   intro j hj;have hfl:=dx aX 6 ((aN xs i).2.2.2.1.take j) fun x _=>dw x
   rw[List.length_take]at hfl;have hbl:(((C++[IntKind.u8.wrap (aN xs i).1])++[IntKind.u8.wrap (aN xs i).2.1])++((aN xs i).2.2.2.1.take j).flatMap aX).length≤930100:=by simp only[List.length_append,List.length_singleton]at*;omega
   refine aI (fun q2=> ?_) (fun q2=> ?_)
   ·have hjl:j<(aN xs i).2.2.2.1.length:=qM q2;have he:elt (0:Int) (aN xs i).2.2.2.1 ((j:Nat):Int)=(aN xs i).2.2.2.1[j]:=by unfold Go.Tr.elt;rw[show((j:Nat):Int).toNat=j by omega,List.getD_eq_getElem?_getD,List.getElem?_eq_getElem hjl];rfl
    refine aI (show(0:Int)≤((j:Nat):Int)∧((j:Nat):Int)<(((aN xs i).2.2.2.1.length:Nat):Int) by omega) ?_;refine Or.inr (eI _ (eI _ (aI (pF _ (by omega) (elt (0:Int) (aN xs i).2.2.2.1 ((j:Nat):Int)) (by rw[he];exact hdi _ (List.getElem_mem hjl))) ?_)));refine aK (j+1) hjl ?_ (by show(aN xs i).2.2.2.1.length-(j+1)<(aN xs i).2.2.2.1.length-j;omega);exact Go.Tr.hd [(21000,66)] rfl (aI rfl (aI ⟨bD (by omega),rfl⟩ trivial)) ⟨trivial,⟨rfl,trivial⟩,trivial,⟨⟨rfl,rfl⟩,⟨rfl,rfl⟩,⟨rfl,rfl⟩,rfl,rfl,trivial⟩,⟨by show(((C++[IntKind.u8.wrap (aN xs i).1])++[IntKind.u8.wrap (aN xs i).2.1])++((aN xs i).2.2.2.1.take j).flatMap aX)++aX (elt (0:Int) (aN xs i).2.2.2.1 ((j:Nat):Int))=_;rw[d9 aX _ hjl,he,List.append_assoc],nP⟩,trivial⟩
   have hje:j=(aN xs i).2.2.2.1.length:=Nat.le_antisymm hj (qI q2);subst hje;refine aI (fun q=>by have q:((aN xs i).1==9)=true:=q;rw[h9]at q;cases q) (fun _=> ?_);refine aK (i+1) hlt ?_ (by show(xs.drop 1).length-(i+1)<(xs.drop 1).length-i;omega);refine Go.Tr.hd [(20000,21000)] rfl (aI rfl (aI ⟨bD (by omega),rfl⟩ trivial)) ⟨trivial,⟨rfl,trivial⟩,⟨?_,nP⟩,trivial⟩;show((C++[IntKind.u8.wrap (aN xs i).1])++[IntKind.u8.wrap (aN xs i).2.1])++((aN xs i).2.2.2.1.take (aN xs i).2.2.2.1.length).flatMap aX=_;rw[hC2,dR,hl,hv,h10,h9,List.take_length]
   simp only[cond_true,cond_false,List.append_assoc,List.nil_append,List.append_nil]
  ·refine Or.inl (eI _ (aI (eT _) ?_));refine aI (fun q=>by have q:(aG (aN xs i).1)=true:=q;rw[hl]at q;cases q) (fun _=> ?_);refine Or.inl (eI _ (aI (ku _) ?_));refine aI (fun q=>by have q:(aM (aN xs i).1)=true:=q;rw[hv]at q;cases q) (fun _=> ?_);refine aI (fun q=>by have q:((aN xs i).1==10)=true:=q;rw[h10]at q;cases q) (fun _=> ?_);refine lp Nat (fun j=>[(0,.sl 21000),(60,.int .i64 (j:Nat))]) (fun j=>[.bT 3 25 [.rsl aV xs],.bT 6 64 [.int .i64 (aN xs i).1,.int .i64 (aN xs i).2.1,.int .i64 (aN xs i).2.2.1,.rsl (.int .i64) (aN xs i).2.2.2.1,.rsl aQ (aN xs i).2.2.2.2],.row 21000 5 1 bn ((C++[IntKind.u8.wrap (aN xs i).1])++((aN xs i).2.2.2.1.take j).flatMap aX) []]) (fun j=>(aN xs i).2.2.2.1.length-j) (fun j=>j≤(aN xs i).2.2.2.1.length) 0 (Nat.zero_le _) ?_ ?_
   ·exact Go.Tr.hd [(21000,30)] rfl (aI rfl (aI ⟨rfl,rfl⟩ trivial)) ⟨trivial,⟨rfl,trivial⟩,trivial,⟨⟨rfl,rfl⟩,⟨rfl,rfl⟩,⟨rfl,rfl⟩,rfl,rfl,trivial⟩,⟨by rw[hC];exact(List.append_nil _).symm,nP⟩,trivial⟩
   intro j hj;have hfl:=dx aX 6 ((aN xs i).2.2.2.1.take j) fun x _=>dw x
   rw[List.length_take]at hfl;have hbl:((C++[IntKind.u8.wrap (aN xs i).1])++((aN xs i).2.2.2.1.take j).flatMap aX).length≤930100:=by simp only[List.length_append,List.length_singleton]at*;omega
   refine aI (fun q2=> ?_) (fun q2=> ?_)
   ·have hjl:j<(aN xs i).2.2.2.1.length:=qM q2;have he:elt (0:Int) (aN xs i).2.2.2.1 ((j:Nat):Int)=(aN xs i).2.2.2.1[j]:=by unfold Go.Tr.elt;rw[show((j:Nat):Int).toNat=j by omega,List.getD_eq_getElem?_getD,List.getElem?_eq_getElem hjl];rfl
    refine aI (show(0:Int)≤((j:Nat):Int)∧((j:Nat):Int)<(((aN xs i).2.2.2.1.length:Nat):Int) by omega) ?_;refine Or.inr (eI _ (eI _ (aI (pF _ (by omega) (elt (0:Int) (aN xs i).2.2.2.1 ((j:Nat):Int)) (by rw[he];exact hdi _ (List.getElem_mem hjl))) ?_)));refine aK (j+1) hjl ?_ (by show(aN xs i).2.2.2.1.length-(j+1)<(aN xs i).2.2.2.1.length-j;omega);exact Go.Tr.hd [(21000,66)] rfl (aI rfl (aI ⟨bD (by omega),rfl⟩ trivial)) ⟨trivial,⟨rfl,trivial⟩,trivial,⟨⟨rfl,rfl⟩,⟨rfl,rfl⟩,⟨rfl,rfl⟩,rfl,rfl,trivial⟩,⟨by show((C++[IntKind.u8.wrap (aN xs i).1])++((aN xs i).2.2.2.1.take j).flatMap aX)++aX (elt (0:Int) (aN xs i).2.2.2.1 ((j:Nat):Int))=_;rw[d9 aX _ hjl,he,List.append_assoc],nP⟩,trivial⟩
   have hje:j=(aN xs i).2.2.2.1.length:=Nat.le_antisymm hj (qI q2);subst hje;refine aI (fun q=>by have q:((aN xs i).1==9)=true:=q;rw[h9]at q;cases q) (fun _=> ?_);refine aK (i+1) hlt ?_ (by show(xs.drop 1).length-(i+1)<(xs.drop 1).length-i;omega);refine Go.Tr.hd [(20000,21000)] rfl (aI rfl (aI ⟨bD (by omega),rfl⟩ trivial)) ⟨trivial,⟨rfl,trivial⟩,⟨?_,nP⟩,trivial⟩;show(C++[IntKind.u8.wrap (aN xs i).1])++((aN xs i).2.2.2.1.take (aN xs i).2.2.2.1.length).flatMap aX=_;rw[hC2,dR,hl,hv,h10,h9,List.take_length];simp only[cond_true,cond_false,List.append_assoc,List.nil_append,List.append_nil]
  ·refine Or.inl (eI _ (aI (eT _) ?_));refine aI (fun q=>by have q:(aG (aN xs i).1)=true:=q;rw[hl]at q;cases q) (fun _=> ?_);refine Or.inl (eI _ (aI (ku _) ?_));refine aI (fun _=> ?_) (fun q=>by have q:(aM (aN xs i).1)=false:=q;rw[hv]at q;cases q);refine Or.inr (eI _ (eI _ (aI (pF ((B++((xs.drop 1).take i).flatMap dR)++[IntKind.u8.wrap (aN xs i).1]) (by rw[←hC];simp only[List.length_append,List.length_singleton];omega) (aN xs i).2.2.1 (hvi hv)) ?_)));have hel2:=dw (aN xs i).2.2.1;refine aI (fun q=>by have q:((aN xs i).1==10)=true:=q;rw[h10]at q;cases q) (fun _=> ?_)
   refine lp Nat (fun j=>[(0,.sl 21000),(60,.int .i64 (j:Nat))]) (fun j=>[.bT 3 25 [.rsl aV xs],.bT 6 64 [.int .i64 (aN xs i).1,.int .i64 (aN xs i).2.1,.int .i64 (aN xs i).2.2.1,.rsl (.int .i64) (aN xs i).2.2.2.1,.rsl aQ (aN xs i).2.2.2.2],.row 21000 5 1 bn (((C++[IntKind.u8.wrap (aN xs i).1])++aX (aN xs i).2.2.1)++((aN xs i).2.2.2.1.take j).flatMap aX) []]) (fun j=>(aN xs i).2.2.2.1.length-j) (fun j=>j≤(aN xs i).2.2.2.1.length) 0 (Nat.zero_le _) ?_ ?_
   ·exact Go.Tr.hd [(21000,46)] rfl (aI rfl (aI ⟨rfl,rfl⟩ trivial)) ⟨trivial,⟨rfl,trivial⟩,trivial,⟨⟨rfl,rfl⟩,⟨rfl,rfl⟩,⟨rfl,rfl⟩,rfl,rfl,trivial⟩,⟨by rw[hC];exact(List.append_nil _).symm,nP⟩,trivial⟩
   intro j hj;have hfl:=dx aX 6 ((aN xs i).2.2.2.1.take j) fun x _=>dw x
   rw[List.length_take]at hfl;have hbl:(((C++[IntKind.u8.wrap (aN xs i).1])++aX (aN xs i).2.2.1)++((aN xs i).2.2.2.1.take j).flatMap aX).length≤930100:=by simp only[List.length_append,List.length_singleton]at*;omega
   refine aI (fun q2=> ?_) (fun q2=> ?_)
   ·have hjl:j<(aN xs i).2.2.2.1.length:=qM q2;have he:elt (0:Int) (aN xs i).2.2.2.1 ((j:Nat):Int)=(aN xs i).2.2.2.1[j]:=by unfold Go.Tr.elt;rw[show((j:Nat):Int).toNat=j by omega,List.getD_eq_getElem?_getD,List.getElem?_eq_getElem hjl];rfl
    refine aI (show(0:Int)≤((j:Nat):Int)∧((j:Nat):Int)<(((aN xs i).2.2.2.1.length:Nat):Int) by omega) ?_;refine Or.inr (eI _ (eI _ (aI (pF _ (by omega) (elt (0:Int) (aN xs i).2.2.2.1 ((j:Nat):Int)) (by rw[he];exact hdi _ (List.getElem_mem hjl))) ?_)));refine aK (j+1) hjl ?_ (by show(aN xs i).2.2.2.1.length-(j+1)<(aN xs i).2.2.2.1.length-j;omega);exact Go.Tr.hd [(21000,66)] rfl (aI rfl (aI ⟨bD (by omega),rfl⟩ trivial)) ⟨trivial,⟨rfl,trivial⟩,trivial,⟨⟨rfl,rfl⟩,⟨rfl,rfl⟩,⟨rfl,rfl⟩,rfl,rfl,trivial⟩,⟨by show(((C++[IntKind.u8.wrap (aN xs i).1])++aX (aN xs i).2.2.1)++((aN xs i).2.2.2.1.take j).flatMap aX)++aX (elt (0:Int) (aN xs i).2.2.2.1 ((j:Nat):Int))=_;rw[d9 aX _ hjl,he,List.append_assoc],nP⟩,trivial⟩
   have hje:j=(aN xs i).2.2.2.1.length:=Nat.le_antisymm hj (qI q2);subst hje;refine aI (fun q=>by have q:((aN xs i).1==9)=true:=q;rw[h9]at q;cases q) (fun _=> ?_);refine aK (i+1) hlt ?_ (by show(xs.drop 1).length-(i+1)<(xs.drop 1).length-i;omega);refine Go.Tr.hd [(20000,21000)] rfl (aI rfl (aI ⟨bD (by omega),rfl⟩ trivial)) ⟨trivial,⟨rfl,trivial⟩,⟨?_,nP⟩,trivial⟩;show((C++[IntKind.u8.wrap (aN xs i).1])++aX (aN xs i).2.2.1)++((aN xs i).2.2.2.1.take (aN xs i).2.2.2.1.length).flatMap aX=_;rw[hC2,dR,hl,hv,h10,h9,List.take_length]
   simp only[cond_true,cond_false,List.append_assoc,List.nil_append,List.append_nil]
  ·refine Or.inl (eI _ (aI (eT _) ?_));refine aI (fun _=> ?_) (fun q=>by have q:(aG (aN xs i).1)=false:=q;rw[hl]at q;cases q);refine aI (by show((B++((xs.drop 1).take i).flatMap dR)++[IntKind.u8.wrap (aN xs i).1]).length+1≤_;rw[←hC];simp only[List.length_append,List.length_singleton];omega) ?_;refine Or.inl (eI _ (aI (ku _) ?_));refine aI (fun _=> ?_) (fun q=>by have q:(aM (aN xs i).1)=false:=q;rw[hv]at q;cases q);refine Or.inr (eI _ (eI _ (aI (pF (((B++((xs.drop 1).take i).flatMap dR)++[IntKind.u8.wrap (aN xs i).1])++[IntKind.u8.wrap (aN xs i).2.1]) (by rw[←hC];simp only[List.length_append,List.length_singleton];omega) (aN xs i).2.2.1 (hvi hv)) ?_)))
   have hel2:=dw (aN xs i).2.2.1;refine aI (fun q=>by have q:((aN xs i).1==10)=true:=q;rw[h10]at q;cases q) (fun _=> ?_);refine lp Nat (fun j=>[(0,.sl 21000),(60,.int .i64 (j:Nat))]) (fun j=>[.bT 3 25 [.rsl aV xs],.bT 6 64 [.int .i64 (aN xs i).1,.int .i64 (aN xs i).2.1,.int .i64 (aN xs i).2.2.1,.rsl (.int .i64) (aN xs i).2.2.2.1,.rsl aQ (aN xs i).2.2.2.2],.row 21000 5 1 bn ((((C++[IntKind.u8.wrap (aN xs i).1])++[IntKind.u8.wrap (aN xs i).2.1])++aX (aN xs i).2.2.1)++((aN xs i).2.2.2.1.take j).flatMap aX) []]) (fun j=>(aN xs i).2.2.2.1.length-j) (fun j=>j≤(aN xs i).2.2.2.1.length) 0 (Nat.zero_le _) ?_ ?_
   ·exact Go.Tr.hd [(21000,46)] rfl (aI rfl (aI ⟨rfl,rfl⟩ trivial)) ⟨trivial,⟨rfl,trivial⟩,trivial,⟨⟨rfl,rfl⟩,⟨rfl,rfl⟩,⟨rfl,rfl⟩,rfl,rfl,trivial⟩,⟨by rw[hC];exact(List.append_nil _).symm,nP⟩,trivial⟩
   intro j hj;have hfl:=dx aX 6 ((aN xs i).2.2.2.1.take j) fun x _=>dw x
   rw[List.length_take]at hfl;have hbl:((((C++[IntKind.u8.wrap (aN xs i).1])++[IntKind.u8.wrap (aN xs i).2.1])++aX (aN xs i).2.2.1)++((aN xs i).2.2.2.1.take j).flatMap aX).length≤930100:=by simp only[List.length_append,List.length_singleton]at*;omega
   refine aI (fun q2=> ?_) (fun q2=> ?_)
   ·have hjl:j<(aN xs i).2.2.2.1.length:=qM q2;have he:elt (0:Int) (aN xs i).2.2.2.1 ((j:Nat):Int)=(aN xs i).2.2.2.1[j]:=by unfold Go.Tr.elt;rw[show((j:Nat):Int).toNat=j by omega,List.getD_eq_getElem?_getD,List.getElem?_eq_getElem hjl];rfl
    refine aI (show(0:Int)≤((j:Nat):Int)∧((j:Nat):Int)<(((aN xs i).2.2.2.1.length:Nat):Int) by omega) ?_;refine Or.inr (eI _ (eI _ (aI (pF _ (by omega) (elt (0:Int) (aN xs i).2.2.2.1 ((j:Nat):Int)) (by rw[he];exact hdi _ (List.getElem_mem hjl))) ?_)));refine aK (j+1) hjl ?_ (by show(aN xs i).2.2.2.1.length-(j+1)<(aN xs i).2.2.2.1.length-j;omega);exact Go.Tr.hd [(21000,66)] rfl (aI rfl (aI ⟨bD (by omega),rfl⟩ trivial)) ⟨trivial,⟨rfl,trivial⟩,trivial,⟨⟨rfl,rfl⟩,⟨rfl,rfl⟩,⟨rfl,rfl⟩,rfl,rfl,trivial⟩,⟨by show((((C++[IntKind.u8.wrap (aN xs i).1])++[IntKind.u8.wrap (aN xs i).2.1])++aX (aN xs i).2.2.1)++((aN xs i).2.2.2.1.take j).flatMap aX)++aX (elt (0:Int) (aN xs i).2.2.2.1 ((j:Nat):Int))=_;rw[d9 aX _ hjl,he,List.append_assoc],nP⟩,trivial⟩
   have hje:j=(aN xs i).2.2.2.1.length:=Nat.le_antisymm hj (qI q2);subst hje;refine aI (fun q=>by have q:((aN xs i).1==9)=true:=q;rw[h9]at q;cases q) (fun _=> ?_);refine aK (i+1) hlt ?_ (by show(xs.drop 1).length-(i+1)<(xs.drop 1).length-i;omega);refine Go.Tr.hd [(20000,21000)] rfl (aI rfl (aI ⟨bD (by omega),rfl⟩ trivial)) ⟨trivial,⟨rfl,trivial⟩,⟨?_,nP⟩,trivial⟩;show(((C++[IntKind.u8.wrap (aN xs i).1])++[IntKind.u8.wrap (aN xs i).2.1])++aX (aN xs i).2.2.1)++((aN xs i).2.2.2.1.take (aN xs i).2.2.2.1.length).flatMap aX=_;rw[hC2,dR,hl,hv,h10,h9,List.take_length]
   simp only[cond_true,cond_false,List.append_assoc,List.nil_append,List.append_nil]
  ·refine Or.inl (eI _ (aI (eT _) ?_));refine aI (fun _=> ?_) (fun q=>by have q:(aG (aN xs i).1)=false:=q;rw[hl]at q;cases q);refine aI (by show((B++((xs.drop 1).take i).flatMap dR)++[IntKind.u8.wrap (aN xs i).1]).length+1≤_;rw[←hC];simp only[List.length_append,List.length_singleton];omega) ?_;refine Or.inl (eI _ (aI (ku _) ?_));refine aI (fun _=> ?_) (fun q=>by have q:(aM (aN xs i).1)=false:=q;rw[hv]at q;cases q);refine Or.inr (eI _ (eI _ (aI (pF (((B++((xs.drop 1).take i).flatMap dR)++[IntKind.u8.wrap (aN xs i).1])++[IntKind.u8.wrap (aN xs i).2.1]) (by rw[←hC];simp only[List.length_append,List.length_singleton];omega) (aN xs i).2.2.1 (hvi hv)) ?_)))
   have hel2:=dw (aN xs i).2.2.1;refine aI (fun q=>by have q:((aN xs i).1==10)=true:=q;rw[h10]at q;cases q) (fun _=> ?_);refine lp Nat (fun j=>[(0,.sl 21000),(60,.int .i64 (j:Nat))]) (fun j=>[.bT 3 25 [.rsl aV xs],.bT 6 64 [.int .i64 (aN xs i).1,.int .i64 (aN xs i).2.1,.int .i64 (aN xs i).2.2.1,.rsl (.int .i64) (aN xs i).2.2.2.1,.rsl aQ (aN xs i).2.2.2.2],.row 21000 5 1 bn ((((C++[IntKind.u8.wrap (aN xs i).1])++[IntKind.u8.wrap (aN xs i).2.1])++aX (aN xs i).2.2.1)++((aN xs i).2.2.2.1.take j).flatMap aX) []]) (fun j=>(aN xs i).2.2.2.1.length-j) (fun j=>j≤(aN xs i).2.2.2.1.length) 0 (Nat.zero_le _) ?_ ?_
   ·exact Go.Tr.hd [(21000,46)] rfl (aI rfl (aI ⟨rfl,rfl⟩ trivial)) ⟨trivial,⟨rfl,trivial⟩,trivial,⟨⟨rfl,rfl⟩,⟨rfl,rfl⟩,⟨rfl,rfl⟩,rfl,rfl,trivial⟩,⟨by rw[hC];exact(List.append_nil _).symm,nP⟩,trivial⟩
   intro j hj;have hfl:=dx aX 6 ((aN xs i).2.2.2.1.take j) fun x _=>dw x
   rw[List.length_take]at hfl;have hbl:((((C++[IntKind.u8.wrap (aN xs i).1])++[IntKind.u8.wrap (aN xs i).2.1])++aX (aN xs i).2.2.1)++((aN xs i).2.2.2.1.take j).flatMap aX).length≤930100:=by simp only[List.length_append,List.length_singleton]at*;omega
   refine aI (fun q2=> ?_) (fun q2=> ?_)
   ·have hjl:j<(aN xs i).2.2.2.1.length:=qM q2;have he:elt (0:Int) (aN xs i).2.2.2.1 ((j:Nat):Int)=(aN xs i).2.2.2.1[j]:=by unfold Go.Tr.elt;rw[show((j:Nat):Int).toNat=j by omega,List.getD_eq_getElem?_getD,List.getElem?_eq_getElem hjl];rfl
    refine aI (show(0:Int)≤((j:Nat):Int)∧((j:Nat):Int)<(((aN xs i).2.2.2.1.length:Nat):Int) by omega) ?_;refine Or.inr (eI _ (eI _ (aI (pF _ (by omega) (elt (0:Int) (aN xs i).2.2.2.1 ((j:Nat):Int)) (by rw[he];exact hdi _ (List.getElem_mem hjl))) ?_)));refine aK (j+1) hjl ?_ (by show(aN xs i).2.2.2.1.length-(j+1)<(aN xs i).2.2.2.1.length-j;omega);exact Go.Tr.hd [(21000,66)] rfl (aI rfl (aI ⟨bD (by omega),rfl⟩ trivial)) ⟨trivial,⟨rfl,trivial⟩,trivial,⟨⟨rfl,rfl⟩,⟨rfl,rfl⟩,⟨rfl,rfl⟩,rfl,rfl,trivial⟩,⟨by show((((C++[IntKind.u8.wrap (aN xs i).1])++[IntKind.u8.wrap (aN xs i).2.1])++aX (aN xs i).2.2.1)++((aN xs i).2.2.2.1.take j).flatMap aX)++aX (elt (0:Int) (aN xs i).2.2.2.1 ((j:Nat):Int))=_;rw[d9 aX _ hjl,he,List.append_assoc],nP⟩,trivial⟩
   have hje:j=(aN xs i).2.2.2.1.length:=Nat.le_antisymm hj (qI q2);subst hje;refine aI (fun _=> ?_) (fun q=>by have q:((aN xs i).1==9)=false:=q;rw[h9]at q;cases q);refine aI (by show((((C++[IntKind.u8.wrap (aN xs i).1])++[IntKind.u8.wrap (aN xs i).2.1])++aX (aN xs i).2.2.1)++((aN xs i).2.2.2.1.take (aN xs i).2.2.2.1.length).flatMap aX).length+1≤_;omega) ?_;refine aK (i+1) hlt ?_ (by show(xs.drop 1).length-(i+1)<(xs.drop 1).length-i;omega);refine Go.Tr.hd [(20000,78)] rfl (aI rfl (aI ⟨bD (by omega),rfl⟩ trivial)) ⟨trivial,⟨rfl,trivial⟩,⟨?_,nP⟩,trivial⟩
   show((((C++[IntKind.u8.wrap (aN xs i).1])++[IntKind.u8.wrap (aN xs i).2.1])++aX (aN xs i).2.2.1)++((aN xs i).2.2.2.1.take (aN xs i).2.2.2.1.length).flatMap aX)++[IntKind.u8.wrap (IntKind.i64.wrap ((((aN xs i).2.2.2.2.length:Nat):Int)-1))]=_;rw[hC2,dR,hl,hv,h10,h9,List.take_length];simp only[cond_true,cond_false,List.append_assoc,List.nil_append,List.append_nil]
  ·refine Or.inl (eI _ (aI (eT _) ?_));refine aI (fun _=> ?_) (fun q=>by have q:(aG (aN xs i).1)=false:=q;rw[hl]at q;cases q);refine aI (by show((B++((xs.drop 1).take i).flatMap dR)++[IntKind.u8.wrap (aN xs i).1]).length+1≤_;rw[←hC];simp only[List.length_append,List.length_singleton];omega) ?_;refine Or.inl (eI _ (aI (ku _) ?_));refine aI (fun q=>by have q:(aM (aN xs i).1)=true:=q;rw[hv]at q;cases q) (fun _=> ?_);refine aI (fun _=> ?_) (fun q=>by have q:((aN xs i).1==10)=false:=q;rw[h10]at q;cases q);refine aI (by show(((B++((xs.drop 1).take i).flatMap dR)++[IntKind.u8.wrap (aN xs i).1])++[IntKind.u8.wrap (aN xs i).2.1]).length+1≤_;rw[←hC];simp only[List.length_append,List.length_singleton];omega) ?_
   refine lp Nat (fun j=>[(0,.sl 21000),(60,.int .i64 (j:Nat))]) (fun j=>[.bT 3 25 [.rsl aV xs],.bT 6 64 [.int .i64 (aN xs i).1,.int .i64 (aN xs i).2.1,.int .i64 (aN xs i).2.2.1,.rsl (.int .i64) (aN xs i).2.2.2.1,.rsl aQ (aN xs i).2.2.2.2],.row 21000 5 1 bn ((((C++[IntKind.u8.wrap (aN xs i).1])++[IntKind.u8.wrap (aN xs i).2.1])++[IntKind.u8.wrap (((aN xs i).2.2.2.1.length:Nat):Int)])++((aN xs i).2.2.2.1.take j).flatMap aX) []]) (fun j=>(aN xs i).2.2.2.1.length-j) (fun j=>j≤(aN xs i).2.2.2.1.length) 0 (Nat.zero_le _) ?_ ?_
   ·exact Go.Tr.hd [(21000,56)] rfl (aI rfl (aI ⟨rfl,rfl⟩ trivial)) ⟨trivial,⟨rfl,trivial⟩,trivial,⟨⟨rfl,rfl⟩,⟨rfl,rfl⟩,⟨rfl,rfl⟩,rfl,rfl,trivial⟩,⟨by rw[hC];exact(List.append_nil _).symm,nP⟩,trivial⟩
   intro j hj;have hfl:=dx aX 6 ((aN xs i).2.2.2.1.take j) fun x _=>dw x
   rw[List.length_take]at hfl;have hbl:((((C++[IntKind.u8.wrap (aN xs i).1])++[IntKind.u8.wrap (aN xs i).2.1])++[IntKind.u8.wrap (((aN xs i).2.2.2.1.length:Nat):Int)])++((aN xs i).2.2.2.1.take j).flatMap aX).length≤930100:=by simp only[List.length_append,List.length_singleton]at*;omega
   refine aI (fun q2=> ?_) (fun q2=> ?_)
   ·have hjl:j<(aN xs i).2.2.2.1.length:=qM q2;have he:elt (0:Int) (aN xs i).2.2.2.1 ((j:Nat):Int)=(aN xs i).2.2.2.1[j]:=by unfold Go.Tr.elt;rw[show((j:Nat):Int).toNat=j by omega,List.getD_eq_getElem?_getD,List.getElem?_eq_getElem hjl];rfl
    refine aI (show(0:Int)≤((j:Nat):Int)∧((j:Nat):Int)<(((aN xs i).2.2.2.1.length:Nat):Int) by omega) ?_;refine Or.inr (eI _ (eI _ (aI (pF _ (by omega) (elt (0:Int) (aN xs i).2.2.2.1 ((j:Nat):Int)) (by rw[he];exact hdi _ (List.getElem_mem hjl))) ?_)));refine aK (j+1) hjl ?_ (by show(aN xs i).2.2.2.1.length-(j+1)<(aN xs i).2.2.2.1.length-j;omega);exact Go.Tr.hd [(21000,66)] rfl (aI rfl (aI ⟨bD (by omega),rfl⟩ trivial)) ⟨trivial,⟨rfl,trivial⟩,trivial,⟨⟨rfl,rfl⟩,⟨rfl,rfl⟩,⟨rfl,rfl⟩,rfl,rfl,trivial⟩,⟨by show((((C++[IntKind.u8.wrap (aN xs i).1])++[IntKind.u8.wrap (aN xs i).2.1])++[IntKind.u8.wrap (((aN xs i).2.2.2.1.length:Nat):Int)])++((aN xs i).2.2.2.1.take j).flatMap aX)++aX (elt (0:Int) (aN xs i).2.2.2.1 ((j:Nat):Int))=_;rw[d9 aX _ hjl,he,List.append_assoc],nP⟩,trivial⟩
   have hje:j=(aN xs i).2.2.2.1.length:=Nat.le_antisymm hj (qI q2);subst hje;refine aI (fun q=>by have q:((aN xs i).1==9)=true:=q;rw[h9]at q;cases q) (fun _=> ?_);refine aK (i+1) hlt ?_ (by show(xs.drop 1).length-(i+1)<(xs.drop 1).length-i;omega);refine Go.Tr.hd [(20000,21000)] rfl (aI rfl (aI ⟨bD (by omega),rfl⟩ trivial)) ⟨trivial,⟨rfl,trivial⟩,⟨?_,nP⟩,trivial⟩;show(((C++[IntKind.u8.wrap (aN xs i).1])++[IntKind.u8.wrap (aN xs i).2.1])++[IntKind.u8.wrap (((aN xs i).2.2.2.1.length:Nat):Int)])++((aN xs i).2.2.2.1.take (aN xs i).2.2.2.1.length).flatMap aX=_
   rw[hC2,dR,hl,hv,h10,h9,List.take_length];simp only[cond_true,cond_false,List.append_assoc,List.nil_append,List.append_nil]
 have hge:i=(xs.drop 1).length:=Nat.le_antisymm hi (qI q1);subst hge;rw[List.take_length]at hCi;refine Or.inr (eI _ (eI _ (aI (Py hsm) ?_)));have hpl:(bF xs).length≤4*xs.length:=uD (pb:=fun _=>false) hsm.2 xs.length (Nat.le_refl _);refine lp Nat (fun k=>[(0,.sl 20000),(82,.int .i64 (k:Nat))]) (fun k=>[.bT 3 25 [.rsl aV xs],.row 80 60 2 aQ (bF xs) [],.row 20000 5 1 bn ((B++(xs.drop 1).flatMap dR)++((bF xs).take k).flatMap (kL xs)) []]) (fun k=>(bF xs).length-k) (fun k=>k≤(bF xs).length) 0 (Nat.zero_le _) ?_ ?_
 ·exact Go.Tr.hd [(20000,20000)] rfl (aI rfl (aI ⟨rfl,rfl⟩ trivial)) ⟨trivial,⟨rfl,trivial⟩,⟨rfl,nP⟩,⟨by rw[List.take_length];exact(List.append_nil _).symm,nP⟩,trivial⟩
 intro k hk;have hfl:=dx (kL xs) 7 ((bF xs).take k) fun p _=>Ap xs p
 rw[List.length_take]at hfl;obtain⟨D,hD⟩:∃D,D=(B++(xs.drop 1).flatMap dR)++((bF xs).take k).flatMap (kL xs):=⟨_,rfl⟩;have hDl:D.length≤950000:=by rw[hD];simp only[List.length_append]at*;omega
 refine aI (fun q2=> ?_) (fun q2=> ?_)
 ·have hlt:k<(bF xs).length:=qM q2;have hpe:elt (dflt aQ) (bF xs) ((k:Nat):Int)=(bF xs)[k]:=by unfold Go.Tr.elt;rw[show((k:Nat):Int).toNat=k by omega,List.getD_eq_getElem?_getD,List.getElem?_eq_getElem hlt];rfl
  have hpi:=Lr hlt;obtain⟨w1,w2,w3,w4⟩:=hok.wi _ hpi;have hD2:(B++(xs.drop 1).flatMap dR)++((bF xs).take (k+1)).flatMap (kL xs)=D++kL xs (elt (dflt aQ) (bF xs) ((k:Nat):Int)):=by rw[d9 (kL xs) (bF xs) hlt,←List.append_assoc,←hD,hpe]
  refine aI ⟨by omega,by omega⟩ ?_;refine Or.inr (eI _ (eI _ (aI (Pt hpi) ?_)));refine Or.inl (eI _ (aI (Uk (elt (dflt aQ) (bF xs) ((k:Nat):Int)) (aD xs (elt (dflt aQ) (bF xs) ((k:Nat):Int)))) ?_));refine aI (fun q3=> ?_) (fun q3=> ?_)
  ·have q3:jq (elt (dflt aQ) (bF xs) ((k:Nat):Int)) (aD xs (elt (dflt aQ) (bF xs) ((k:Nat):Int)))=true:=q3;have w2a:=w2.1;have w2b:=w2.2.1;have hel3:=dw (aD xs (elt (dflt aQ) (bF xs) ((k:Nat):Int))).1;refine Or.inr (eI _ (eI _ (aI (pF ((B++(xs.drop 1).flatMap dR)++((bF xs).take k).flatMap (kL xs)) (by rw[←hD];omega) (aD xs (elt (dflt aQ) (bF xs) ((k:Nat):Int))).1 (sK (by omega) (by omega))) ?_)));refine aI (by show(((B++(xs.drop 1).flatMap dR)++((bF xs).take k).flatMap (kL xs))++aX (aD xs (elt (dflt aQ) (bF xs) ((k:Nat):Int))).1).length+1≤_;rw[←hD,List.length_append];omega) ?_
   refine aI (by kernel_rfl) ?_;refine aK (k+1) hlt ?_ (by show(bF xs).length-(k+1)<(bF xs).length-k;omega);refine Go.Tr.hd [(20000,99)] rfl (aI rfl (aI ⟨bD (by omega),rfl⟩ trivial)) ⟨trivial,⟨rfl,trivial⟩,⟨rfl,nP⟩,⟨?_,nP⟩,trivial⟩;rw[hD2,kL,q3,hD];exact List.append_assoc _ _ _
  ·have q3:jq (elt (dflt aQ) (bF xs) ((k:Nat):Int)) (aD xs (elt (dflt aQ) (bF xs) ((k:Nat):Int)))=false:=q3;refine aK (k+1) hlt ?_ (by show(bF xs).length-(k+1)<(bF xs).length-k;omega);refine Go.Tr.hd [(20000,20000)] rfl (aI rfl (aI ⟨bD (by omega),rfl⟩ trivial)) ⟨trivial,⟨rfl,trivial⟩,⟨rfl,nP⟩,⟨?_,nP⟩,trivial⟩;rw[hD2,kL,q3,hD];exact(List.append_nil _).symm
 have hke:k=(bF xs).length:=Nat.le_antisymm hk (qI q2);subst hke;rw[List.take_length]at hD;have hfin:(B++(xs.drop 1).flatMap dR)++((bF xs).take (bF xs).length).flatMap (kL xs)=b++bZ xs:=by rw[List.take_length,hB,bZ];simp only[List.append_assoc]
 exact fin [(10001,20000)] (aI rfl ⟨⟨hfin,nP⟩,trivial⟩)
theorem NA(xs:List ah)(hok:jY xs):aC Try.prog 45 [.raw (.slice none 0 0),.agg [.rsl aV xs]] [] (.sl 10000) (tB 10000 (([]:List Int)++bZ xs)):=by
 have l1:=hok.l1;have l2:=hok.l2;have hsm:=OZ hok;have hb:([]:List Int).length≤900000:=by decide
 have hel:=dw ((xs.length:Nat):Int);obtain⟨B,hB⟩:∃B,B=([]:List Int)++aX ((xs.length:Nat):Int):=⟨_,rfl⟩;have hBl:B.length≤900006:=by rw[hB,List.length_append];omega
 have hA0:=SE ((xs.length:Nat):Int) (sK (by omega) (by omega));rw[←hB]at hA0;have hdl:(xs.drop 1).length=xs.length-1:=List.length_drop;have hdl2:(List.drop (1:Int).toNat xs).length=xs.length-1:=hdl;have hwf:∀i,i<(xs.drop 1).length→Wf (aN xs i)∧(aN xs i).1≠1:=fun i hi=>by rw[Nv hi];exact⟨hok.wf _ (by omega) (by omega),fun e=>by have:=(hok.rt ((i+1:Nat):Int) (by omega) (by omega)).1 e;omega⟩
 have hCl:∀i,i≤(xs.drop 1).length→(B++((xs.drop 1).take i).flatMap dR).length≤930000:=fun i hi=>by
  have:=dx dR 40 ((xs.drop 1).take i) fun a ha=>by
   obtain⟨j,hj,rfl⟩:=List.mem_iff_getElem.1 (List.mem_of_mem_take ha);rw[←xU hj];exact Ao (wf_data (hwf j hj).1)
  rw[List.length_take]at this;rw[List.length_append];omega
 refine aC.intro (nt:=102) aS mixed G5 Try.func45 rfl rfl rfl rfl rfl rfl ?_;refine Or.inr (eI _ (eI _ (aI hA0 ?_)));refine aI (by show(0:Int)≤1∧(1:Int)≤((xs.length:Nat):Int);omega) ?_;refine lp Nat (fun i=>[(0,.sl 20000),(21,.int .i64 (i:Nat))]) (fun i=>[.bT 3 25 [.rsl aV xs],.row 20000 5 1 bn (B++((xs.drop 1).take i).flatMap dR) []]) (fun i=>(xs.drop 1).length-i) (fun i=>i≤(xs.drop 1).length) 0 (Nat.zero_le _) ?_ ?_
 ·exact Go.Tr.hd [(20000,16)] rfl (aI rfl (aI ⟨rfl,rfl⟩ trivial)) ⟨trivial,⟨rfl,trivial⟩,⟨(List.append_nil _).symm,nP⟩,trivial⟩
 intro i hi;have hCi:=hCl i hi;refine aI (fun q1=> ?_) (fun q1=> ?_)
 ·have hlt:i<(xs.drop 1).length:=qM q1;obtain⟨wf,hk1⟩:=hwf i hlt;obtain⟨hvi,hdi⟩:=LX wf;have hdt:=wf_data wf;have hpt:=(oN wf).2;obtain⟨C,hC⟩:∃C,C=B++((xs.drop 1).take i).flatMap dR:=⟨_,rfl⟩;rw[←hC]at hCi;have hC2:B++((xs.drop 1).take (i+1)).flatMap dR=C++dR (aN xs i):=by rw[d9 dR (xs.drop 1) hlt,←List.append_assoc,←hC,xU hlt]
  refine aI ⟨by omega,by show((i:Nat):Int)<(((List.drop (1:Int).toNat xs).length:Nat):Int);omega⟩ ?_;refine aI (by show(B++((xs.drop 1).take i).flatMap dR).length+1≤_;rw[←hC];omega) ?_;rcases GH wf hk1 with⟨hl,hv,h10,h9⟩|⟨hl,hv,h10,h9⟩|⟨hl,hv,h10,h9⟩|⟨hl,hv,h10,h9⟩|⟨hl,hv,h10,h9⟩|⟨hl,hv,h10,h9⟩
  ·refine Or.inl (eI _ (aI (eT _) ?_));refine aI (fun _=> ?_) (fun q=>by have q:(aG (aN xs i).1)=false:=q;rw[hl]at q;cases q);refine aI (by show((B++((xs.drop 1).take i).flatMap dR)++[IntKind.u8.wrap (aN xs i).1]).length+1≤_;rw[←hC];simp only[List.length_append,List.length_singleton];omega) ?_;refine Or.inl (eI _ (aI (ku _) ?_));refine aI (fun q=>by have q:(aM (aN xs i).1)=true:=q;rw[hv]at q;cases q) (fun _=> ?_);refine aI (fun q=>by have q:((aN xs i).1==10)=true:=q;rw[h10]at q;cases q) (fun _=> ?_);refine lp Nat (fun j=>[(0,.sl 21000),(60,.int .i64 (j:Nat))]) (fun j=>[.bT 3 25 [.rsl aV xs],.bT 6 64 [.int .i64 (aN xs i).1,.int .i64 (aN xs i).2.1,.int .i64 (aN xs i).2.2.1,.rsl (.int .i64) (aN xs i).2.2.2.1,.rsl aQ (aN xs i).2.2.2.2],.row 21000 5 1 bn (((C++[IntKind.u8.wrap (aN xs i).1])++[IntKind.u8.wrap (aN xs i).2.1])++((aN xs i).2.2.2.1.take j).flatMap aX) []]) (fun j=>(aN xs i).2.2.2.1.length-j) (fun j=>j≤(aN xs i).2.2.2.1.length) 0 (Nat.zero_le _) ?_ ?_
   ·exact Go.Tr.hd [(21000,39)] rfl (aI rfl (aI ⟨rfl,rfl⟩ trivial)) ⟨trivial,⟨rfl,trivial⟩,trivial,⟨⟨rfl,rfl⟩,⟨rfl,rfl⟩,⟨rfl,rfl⟩,rfl,rfl,trivial⟩,⟨by rw[hC];exact(List.append_nil _).symm,nP⟩,trivial⟩
   intro j hj;have hfl:=dx aX 6 ((aN xs i).2.2.2.1.take j) fun x _=>dw x
   rw[List.length_take]at hfl;have hbl:(((C++[IntKind.u8.wrap (aN xs i).1])++[IntKind.u8.wrap (aN xs i).2.1])++((aN xs i).2.2.2.1.take j).flatMap aX).length≤930100:=by simp only[List.length_append,List.length_singleton]at*;omega
   refine aI (fun q2=> ?_) (fun q2=> ?_)
   ·have hjl:j<(aN xs i).2.2.2.1.length:=qM q2;have he:elt (0:Int) (aN xs i).2.2.2.1 ((j:Nat):Int)=(aN xs i).2.2.2.1[j]:=by unfold Go.Tr.elt;rw[show((j:Nat):Int).toNat=j by omega,List.getD_eq_getElem?_getD,List.getElem?_eq_getElem hjl];rfl
    refine aI (show(0:Int)≤((j:Nat):Int)∧((j:Nat):Int)<(((aN xs i).2.2.2.1.length:Nat):Int) by omega) ?_;refine Or.inr (eI _ (eI _ (aI (pF _ (by omega) (elt (0:Int) (aN xs i).2.2.2.1 ((j:Nat):Int)) (by rw[he];exact hdi _ (List.getElem_mem hjl))) ?_)));refine aK (j+1) hjl ?_ (by show(aN xs i).2.2.2.1.length-(j+1)<(aN xs i).2.2.2.1.length-j;omega);exact Go.Tr.hd [(21000,66)] rfl (aI rfl (aI ⟨bD (by omega),rfl⟩ trivial)) ⟨trivial,⟨rfl,trivial⟩,trivial,⟨⟨rfl,rfl⟩,⟨rfl,rfl⟩,⟨rfl,rfl⟩,rfl,rfl,trivial⟩,⟨by show(((C++[IntKind.u8.wrap (aN xs i).1])++[IntKind.u8.wrap (aN xs i).2.1])++((aN xs i).2.2.2.1.take j).flatMap aX)++aX (elt (0:Int) (aN xs i).2.2.2.1 ((j:Nat):Int))=_;rw[d9 aX _ hjl,he,List.append_assoc],nP⟩,trivial⟩
   have hje:j=(aN xs i).2.2.2.1.length:=Nat.le_antisymm hj (qI q2);subst hje;refine aI (fun q=>by have q:((aN xs i).1==9)=true:=q;rw[h9]at q;cases q) (fun _=> ?_);refine aK (i+1) hlt ?_ (by show(xs.drop 1).length-(i+1)<(xs.drop 1).length-i;omega);refine Go.Tr.hd [(20000,21000)] rfl (aI rfl (aI ⟨bD (by omega),rfl⟩ trivial)) ⟨trivial,⟨rfl,trivial⟩,⟨?_,nP⟩,trivial⟩;show((C++[IntKind.u8.wrap (aN xs i).1])++[IntKind.u8.wrap (aN xs i).2.1])++((aN xs i).2.2.2.1.take (aN xs i).2.2.2.1.length).flatMap aX=_;rw[hC2,dR,hl,hv,h10,h9,List.take_length]
   simp only[cond_true,cond_false,List.append_assoc,List.nil_append,List.append_nil]
  ·refine Or.inl (eI _ (aI (eT _) ?_));refine aI (fun q=>by have q:(aG (aN xs i).1)=true:=q;rw[hl]at q;cases q) (fun _=> ?_);refine Or.inl (eI _ (aI (ku _) ?_));refine aI (fun q=>by have q:(aM (aN xs i).1)=true:=q;rw[hv]at q;cases q) (fun _=> ?_);refine aI (fun q=>by have q:((aN xs i).1==10)=true:=q;rw[h10]at q;cases q) (fun _=> ?_);refine lp Nat (fun j=>[(0,.sl 21000),(60,.int .i64 (j:Nat))]) (fun j=>[.bT 3 25 [.rsl aV xs],.bT 6 64 [.int .i64 (aN xs i).1,.int .i64 (aN xs i).2.1,.int .i64 (aN xs i).2.2.1,.rsl (.int .i64) (aN xs i).2.2.2.1,.rsl aQ (aN xs i).2.2.2.2],.row 21000 5 1 bn ((C++[IntKind.u8.wrap (aN xs i).1])++((aN xs i).2.2.2.1.take j).flatMap aX) []]) (fun j=>(aN xs i).2.2.2.1.length-j) (fun j=>j≤(aN xs i).2.2.2.1.length) 0 (Nat.zero_le _) ?_ ?_
   ·exact Go.Tr.hd [(21000,30)] rfl (aI rfl (aI ⟨rfl,rfl⟩ trivial)) ⟨trivial,⟨rfl,trivial⟩,trivial,⟨⟨rfl,rfl⟩,⟨rfl,rfl⟩,⟨rfl,rfl⟩,rfl,rfl,trivial⟩,⟨by rw[hC];exact(List.append_nil _).symm,nP⟩,trivial⟩
   intro j hj;have hfl:=dx aX 6 ((aN xs i).2.2.2.1.take j) fun x _=>dw x
   rw[List.length_take]at hfl;have hbl:((C++[IntKind.u8.wrap (aN xs i).1])++((aN xs i).2.2.2.1.take j).flatMap aX).length≤930100:=by simp only[List.length_append,List.length_singleton]at*;omega
   refine aI (fun q2=> ?_) (fun q2=> ?_)
   ·have hjl:j<(aN xs i).2.2.2.1.length:=qM q2;have he:elt (0:Int) (aN xs i).2.2.2.1 ((j:Nat):Int)=(aN xs i).2.2.2.1[j]:=by unfold Go.Tr.elt;rw[show((j:Nat):Int).toNat=j by omega,List.getD_eq_getElem?_getD,List.getElem?_eq_getElem hjl];rfl
    refine aI (show(0:Int)≤((j:Nat):Int)∧((j:Nat):Int)<(((aN xs i).2.2.2.1.length:Nat):Int) by omega) ?_;refine Or.inr (eI _ (eI _ (aI (pF _ (by omega) (elt (0:Int) (aN xs i).2.2.2.1 ((j:Nat):Int)) (by rw[he];exact hdi _ (List.getElem_mem hjl))) ?_)));refine aK (j+1) hjl ?_ (by show(aN xs i).2.2.2.1.length-(j+1)<(aN xs i).2.2.2.1.length-j;omega);exact Go.Tr.hd [(21000,66)] rfl (aI rfl (aI ⟨bD (by omega),rfl⟩ trivial)) ⟨trivial,⟨rfl,trivial⟩,trivial,⟨⟨rfl,rfl⟩,⟨rfl,rfl⟩,⟨rfl,rfl⟩,rfl,rfl,trivial⟩,⟨by show((C++[IntKind.u8.wrap (aN xs i).1])++((aN xs i).2.2.2.1.take j).flatMap aX)++aX (elt (0:Int) (aN xs i).2.2.2.1 ((j:Nat):Int))=_;rw[d9 aX _ hjl,he,List.append_assoc],nP⟩,trivial⟩
   have hje:j=(aN xs i).2.2.2.1.length:=Nat.le_antisymm hj (qI q2);subst hje;refine aI (fun q=>by have q:((aN xs i).1==9)=true:=q;rw[h9]at q;cases q) (fun _=> ?_);refine aK (i+1) hlt ?_ (by show(xs.drop 1).length-(i+1)<(xs.drop 1).length-i;omega);refine Go.Tr.hd [(20000,21000)] rfl (aI rfl (aI ⟨bD (by omega),rfl⟩ trivial)) ⟨trivial,⟨rfl,trivial⟩,⟨?_,nP⟩,trivial⟩;show(C++[IntKind.u8.wrap (aN xs i).1])++((aN xs i).2.2.2.1.take (aN xs i).2.2.2.1.length).flatMap aX=_;rw[hC2,dR,hl,hv,h10,h9,List.take_length];simp only[cond_true,cond_false,List.append_assoc,List.nil_append,List.append_nil]
  ·refine Or.inl (eI _ (aI (eT _) ?_));refine aI (fun q=>by have q:(aG (aN xs i).1)=true:=q;rw[hl]at q;cases q) (fun _=> ?_);refine Or.inl (eI _ (aI (ku _) ?_));refine aI (fun _=> ?_) (fun q=>by have q:(aM (aN xs i).1)=false:=q;rw[hv]at q;cases q);refine Or.inr (eI _ (eI _ (aI (pF ((B++((xs.drop 1).take i).flatMap dR)++[IntKind.u8.wrap (aN xs i).1]) (by rw[←hC];simp only[List.length_append,List.length_singleton];omega) (aN xs i).2.2.1 (hvi hv)) ?_)));have hel2:=dw (aN xs i).2.2.1;refine aI (fun q=>by have q:((aN xs i).1==10)=true:=q;rw[h10]at q;cases q) (fun _=> ?_)
   refine lp Nat (fun j=>[(0,.sl 21000),(60,.int .i64 (j:Nat))]) (fun j=>[.bT 3 25 [.rsl aV xs],.bT 6 64 [.int .i64 (aN xs i).1,.int .i64 (aN xs i).2.1,.int .i64 (aN xs i).2.2.1,.rsl (.int .i64) (aN xs i).2.2.2.1,.rsl aQ (aN xs i).2.2.2.2],.row 21000 5 1 bn (((C++[IntKind.u8.wrap (aN xs i).1])++aX (aN xs i).2.2.1)++((aN xs i).2.2.2.1.take j).flatMap aX) []]) (fun j=>(aN xs i).2.2.2.1.length-j) (fun j=>j≤(aN xs i).2.2.2.1.length) 0 (Nat.zero_le _) ?_ ?_
   ·exact Go.Tr.hd [(21000,46)] rfl (aI rfl (aI ⟨rfl,rfl⟩ trivial)) ⟨trivial,⟨rfl,trivial⟩,trivial,⟨⟨rfl,rfl⟩,⟨rfl,rfl⟩,⟨rfl,rfl⟩,rfl,rfl,trivial⟩,⟨by rw[hC];exact(List.append_nil _).symm,nP⟩,trivial⟩
   intro j hj;have hfl:=dx aX 6 ((aN xs i).2.2.2.1.take j) fun x _=>dw x
   rw[List.length_take]at hfl;have hbl:(((C++[IntKind.u8.wrap (aN xs i).1])++aX (aN xs i).2.2.1)++((aN xs i).2.2.2.1.take j).flatMap aX).length≤930100:=by simp only[List.length_append,List.length_singleton]at*;omega
   refine aI (fun q2=> ?_) (fun q2=> ?_)
   ·have hjl:j<(aN xs i).2.2.2.1.length:=qM q2;have he:elt (0:Int) (aN xs i).2.2.2.1 ((j:Nat):Int)=(aN xs i).2.2.2.1[j]:=by unfold Go.Tr.elt;rw[show((j:Nat):Int).toNat=j by omega,List.getD_eq_getElem?_getD,List.getElem?_eq_getElem hjl];rfl
    refine aI (show(0:Int)≤((j:Nat):Int)∧((j:Nat):Int)<(((aN xs i).2.2.2.1.length:Nat):Int) by omega) ?_;refine Or.inr (eI _ (eI _ (aI (pF _ (by omega) (elt (0:Int) (aN xs i).2.2.2.1 ((j:Nat):Int)) (by rw[he];exact hdi _ (List.getElem_mem hjl))) ?_)));refine aK (j+1) hjl ?_ (by show(aN xs i).2.2.2.1.length-(j+1)<(aN xs i).2.2.2.1.length-j;omega);exact Go.Tr.hd [(21000,66)] rfl (aI rfl (aI ⟨bD (by omega),rfl⟩ trivial)) ⟨trivial,⟨rfl,trivial⟩,trivial,⟨⟨rfl,rfl⟩,⟨rfl,rfl⟩,⟨rfl,rfl⟩,rfl,rfl,trivial⟩,⟨by show(((C++[IntKind.u8.wrap (aN xs i).1])++aX (aN xs i).2.2.1)++((aN xs i).2.2.2.1.take j).flatMap aX)++aX (elt (0:Int) (aN xs i).2.2.2.1 ((j:Nat):Int))=_;rw[d9 aX _ hjl,he,List.append_assoc],nP⟩,trivial⟩
   have hje:j=(aN xs i).2.2.2.1.length:=Nat.le_antisymm hj (qI q2);subst hje;refine aI (fun q=>by have q:((aN xs i).1==9)=true:=q;rw[h9]at q;cases q) (fun _=> ?_);refine aK (i+1) hlt ?_ (by show(xs.drop 1).length-(i+1)<(xs.drop 1).length-i;omega);refine Go.Tr.hd [(20000,21000)] rfl (aI rfl (aI ⟨bD (by omega),rfl⟩ trivial)) ⟨trivial,⟨rfl,trivial⟩,⟨?_,nP⟩,trivial⟩;show((C++[IntKind.u8.wrap (aN xs i).1])++aX (aN xs i).2.2.1)++((aN xs i).2.2.2.1.take (aN xs i).2.2.2.1.length).flatMap aX=_;rw[hC2,dR,hl,hv,h10,h9,List.take_length]
   simp only[cond_true,cond_false,List.append_assoc,List.nil_append,List.append_nil]
  ·refine Or.inl (eI _ (aI (eT _) ?_));refine aI (fun _=> ?_) (fun q=>by have q:(aG (aN xs i).1)=false:=q;rw[hl]at q;cases q);refine aI (by show((B++((xs.drop 1).take i).flatMap dR)++[IntKind.u8.wrap (aN xs i).1]).length+1≤_;rw[←hC];simp only[List.length_append,List.length_singleton];omega) ?_;refine Or.inl (eI _ (aI (ku _) ?_));refine aI (fun _=> ?_) (fun q=>by have q:(aM (aN xs i).1)=false:=q;rw[hv]at q;cases q);refine Or.inr (eI _ (eI _ (aI (pF (((B++((xs.drop 1).take i).flatMap dR)++[IntKind.u8.wrap (aN xs i).1])++[IntKind.u8.wrap (aN xs i).2.1]) (by rw[←hC];simp only[List.length_append,List.length_singleton];omega) (aN xs i).2.2.1 (hvi hv)) ?_)))
   have hel2:=dw (aN xs i).2.2.1;refine aI (fun q=>by have q:((aN xs i).1==10)=true:=q;rw[h10]at q;cases q) (fun _=> ?_);refine lp Nat (fun j=>[(0,.sl 21000),(60,.int .i64 (j:Nat))]) (fun j=>[.bT 3 25 [.rsl aV xs],.bT 6 64 [.int .i64 (aN xs i).1,.int .i64 (aN xs i).2.1,.int .i64 (aN xs i).2.2.1,.rsl (.int .i64) (aN xs i).2.2.2.1,.rsl aQ (aN xs i).2.2.2.2],.row 21000 5 1 bn ((((C++[IntKind.u8.wrap (aN xs i).1])++[IntKind.u8.wrap (aN xs i).2.1])++aX (aN xs i).2.2.1)++((aN xs i).2.2.2.1.take j).flatMap aX) []]) (fun j=>(aN xs i).2.2.2.1.length-j) (fun j=>j≤(aN xs i).2.2.2.1.length) 0 (Nat.zero_le _) ?_ ?_
   ·exact Go.Tr.hd [(21000,46)] rfl (aI rfl (aI ⟨rfl,rfl⟩ trivial)) ⟨trivial,⟨rfl,trivial⟩,trivial,⟨⟨rfl,rfl⟩,⟨rfl,rfl⟩,⟨rfl,rfl⟩,rfl,rfl,trivial⟩,⟨by rw[hC];exact(List.append_nil _).symm,nP⟩,trivial⟩
   intro j hj;have hfl:=dx aX 6 ((aN xs i).2.2.2.1.take j) fun x _=>dw x
   rw[List.length_take]at hfl;have hbl:((((C++[IntKind.u8.wrap (aN xs i).1])++[IntKind.u8.wrap (aN xs i).2.1])++aX (aN xs i).2.2.1)++((aN xs i).2.2.2.1.take j).flatMap aX).length≤930100:=by simp only[List.length_append,List.length_singleton]at*;omega
   refine aI (fun q2=> ?_) (fun q2=> ?_)
   ·have hjl:j<(aN xs i).2.2.2.1.length:=qM q2;have he:elt (0:Int) (aN xs i).2.2.2.1 ((j:Nat):Int)=(aN xs i).2.2.2.1[j]:=by unfold Go.Tr.elt;rw[show((j:Nat):Int).toNat=j by omega,List.getD_eq_getElem?_getD,List.getElem?_eq_getElem hjl];rfl
    refine aI (show(0:Int)≤((j:Nat):Int)∧((j:Nat):Int)<(((aN xs i).2.2.2.1.length:Nat):Int) by omega) ?_;refine Or.inr (eI _ (eI _ (aI (pF _ (by omega) (elt (0:Int) (aN xs i).2.2.2.1 ((j:Nat):Int)) (by rw[he];exact hdi _ (List.getElem_mem hjl))) ?_)));refine aK (j+1) hjl ?_ (by show(aN xs i).2.2.2.1.length-(j+1)<(aN xs i).2.2.2.1.length-j;omega);exact Go.Tr.hd [(21000,66)] rfl (aI rfl (aI ⟨bD (by omega),rfl⟩ trivial)) ⟨trivial,⟨rfl,trivial⟩,trivial,⟨⟨rfl,rfl⟩,⟨rfl,rfl⟩,⟨rfl,rfl⟩,rfl,rfl,trivial⟩,⟨by show((((C++[IntKind.u8.wrap (aN xs i).1])++[IntKind.u8.wrap (aN xs i).2.1])++aX (aN xs i).2.2.1)++((aN xs i).2.2.2.1.take j).flatMap aX)++aX (elt (0:Int) (aN xs i).2.2.2.1 ((j:Nat):Int))=_;rw[d9 aX _ hjl,he,List.append_assoc],nP⟩,trivial⟩
   have hje:j=(aN xs i).2.2.2.1.length:=Nat.le_antisymm hj (qI q2);subst hje;refine aI (fun q=>by have q:((aN xs i).1==9)=true:=q;rw[h9]at q;cases q) (fun _=> ?_);refine aK (i+1) hlt ?_ (by show(xs.drop 1).length-(i+1)<(xs.drop 1).length-i;omega);refine Go.Tr.hd [(20000,21000)] rfl (aI rfl (aI ⟨bD (by omega),rfl⟩ trivial)) ⟨trivial,⟨rfl,trivial⟩,⟨?_,nP⟩,trivial⟩;show(((C++[IntKind.u8.wrap (aN xs i).1])++[IntKind.u8.wrap (aN xs i).2.1])++aX (aN xs i).2.2.1)++((aN xs i).2.2.2.1.take (aN xs i).2.2.2.1.length).flatMap aX=_;rw[hC2,dR,hl,hv,h10,h9,List.take_length]
   simp only[cond_true,cond_false,List.append_assoc,List.nil_append,List.append_nil]
  ·refine Or.inl (eI _ (aI (eT _) ?_));refine aI (fun _=> ?_) (fun q=>by have q:(aG (aN xs i).1)=false:=q;rw[hl]at q;cases q);refine aI (by show((B++((xs.drop 1).take i).flatMap dR)++[IntKind.u8.wrap (aN xs i).1]).length+1≤_;rw[←hC];simp only[List.length_append,List.length_singleton];omega) ?_;refine Or.inl (eI _ (aI (ku _) ?_));refine aI (fun _=> ?_) (fun q=>by have q:(aM (aN xs i).1)=false:=q;rw[hv]at q;cases q);refine Or.inr (eI _ (eI _ (aI (pF (((B++((xs.drop 1).take i).flatMap dR)++[IntKind.u8.wrap (aN xs i).1])++[IntKind.u8.wrap (aN xs i).2.1]) (by rw[←hC];simp only[List.length_append,List.length_singleton];omega) (aN xs i).2.2.1 (hvi hv)) ?_)))
   have hel2:=dw (aN xs i).2.2.1;refine aI (fun q=>by have q:((aN xs i).1==10)=true:=q;rw[h10]at q;cases q) (fun _=> ?_);refine lp Nat (fun j=>[(0,.sl 21000),(60,.int .i64 (j:Nat))]) (fun j=>[.bT 3 25 [.rsl aV xs],.bT 6 64 [.int .i64 (aN xs i).1,.int .i64 (aN xs i).2.1,.int .i64 (aN xs i).2.2.1,.rsl (.int .i64) (aN xs i).2.2.2.1,.rsl aQ (aN xs i).2.2.2.2],.row 21000 5 1 bn ((((C++[IntKind.u8.wrap (aN xs i).1])++[IntKind.u8.wrap (aN xs i).2.1])++aX (aN xs i).2.2.1)++((aN xs i).2.2.2.1.take j).flatMap aX) []]) (fun j=>(aN xs i).2.2.2.1.length-j) (fun j=>j≤(aN xs i).2.2.2.1.length) 0 (Nat.zero_le _) ?_ ?_
   ·exact Go.Tr.hd [(21000,46)] rfl (aI rfl (aI ⟨rfl,rfl⟩ trivial)) ⟨trivial,⟨rfl,trivial⟩,trivial,⟨⟨rfl,rfl⟩,⟨rfl,rfl⟩,⟨rfl,rfl⟩,rfl,rfl,trivial⟩,⟨by rw[hC];exact(List.append_nil _).symm,nP⟩,trivial⟩
   intro j hj;have hfl:=dx aX 6 ((aN xs i).2.2.2.1.take j) fun x _=>dw x
   rw[List.length_take]at hfl;have hbl:((((C++[IntKind.u8.wrap (aN xs i).1])++[IntKind.u8.wrap (aN xs i).2.1])++aX (aN xs i).2.2.1)++((aN xs i).2.2.2.1.take j).flatMap aX).length≤930100:=by simp only[List.length_append,List.length_singleton]at*;omega
   refine aI (fun q2=> ?_) (fun q2=> ?_)
   ·have hjl:j<(aN xs i).2.2.2.1.length:=qM q2;have he:elt (0:Int) (aN xs i).2.2.2.1 ((j:Nat):Int)=(aN xs i).2.2.2.1[j]:=by unfold Go.Tr.elt;rw[show((j:Nat):Int).toNat=j by omega,List.getD_eq_getElem?_getD,List.getElem?_eq_getElem hjl];rfl
    refine aI (show(0:Int)≤((j:Nat):Int)∧((j:Nat):Int)<(((aN xs i).2.2.2.1.length:Nat):Int) by omega) ?_;refine Or.inr (eI _ (eI _ (aI (pF _ (by omega) (elt (0:Int) (aN xs i).2.2.2.1 ((j:Nat):Int)) (by rw[he];exact hdi _ (List.getElem_mem hjl))) ?_)));refine aK (j+1) hjl ?_ (by show(aN xs i).2.2.2.1.length-(j+1)<(aN xs i).2.2.2.1.length-j;omega);exact Go.Tr.hd [(21000,66)] rfl (aI rfl (aI ⟨bD (by omega),rfl⟩ trivial)) ⟨trivial,⟨rfl,trivial⟩,trivial,⟨⟨rfl,rfl⟩,⟨rfl,rfl⟩,⟨rfl,rfl⟩,rfl,rfl,trivial⟩,⟨by show((((C++[IntKind.u8.wrap (aN xs i).1])++[IntKind.u8.wrap (aN xs i).2.1])++aX (aN xs i).2.2.1)++((aN xs i).2.2.2.1.take j).flatMap aX)++aX (elt (0:Int) (aN xs i).2.2.2.1 ((j:Nat):Int))=_;rw[d9 aX _ hjl,he,List.append_assoc],nP⟩,trivial⟩
   have hje:j=(aN xs i).2.2.2.1.length:=Nat.le_antisymm hj (qI q2);subst hje;refine aI (fun _=> ?_) (fun q=>by have q:((aN xs i).1==9)=false:=q;rw[h9]at q;cases q);refine aI (by show((((C++[IntKind.u8.wrap (aN xs i).1])++[IntKind.u8.wrap (aN xs i).2.1])++aX (aN xs i).2.2.1)++((aN xs i).2.2.2.1.take (aN xs i).2.2.2.1.length).flatMap aX).length+1≤_;omega) ?_;refine aK (i+1) hlt ?_ (by show(xs.drop 1).length-(i+1)<(xs.drop 1).length-i;omega);refine Go.Tr.hd [(20000,78)] rfl (aI rfl (aI ⟨bD (by omega),rfl⟩ trivial)) ⟨trivial,⟨rfl,trivial⟩,⟨?_,nP⟩,trivial⟩
   show((((C++[IntKind.u8.wrap (aN xs i).1])++[IntKind.u8.wrap (aN xs i).2.1])++aX (aN xs i).2.2.1)++((aN xs i).2.2.2.1.take (aN xs i).2.2.2.1.length).flatMap aX)++[IntKind.u8.wrap (IntKind.i64.wrap ((((aN xs i).2.2.2.2.length:Nat):Int)-1))]=_;rw[hC2,dR,hl,hv,h10,h9,List.take_length];simp only[cond_true,cond_false,List.append_assoc,List.nil_append,List.append_nil]
  ·refine Or.inl (eI _ (aI (eT _) ?_));refine aI (fun _=> ?_) (fun q=>by have q:(aG (aN xs i).1)=false:=q;rw[hl]at q;cases q);refine aI (by show((B++((xs.drop 1).take i).flatMap dR)++[IntKind.u8.wrap (aN xs i).1]).length+1≤_;rw[←hC];simp only[List.length_append,List.length_singleton];omega) ?_;refine Or.inl (eI _ (aI (ku _) ?_));refine aI (fun q=>by have q:(aM (aN xs i).1)=true:=q;rw[hv]at q;cases q) (fun _=> ?_);refine aI (fun _=> ?_) (fun q=>by have q:((aN xs i).1==10)=false:=q;rw[h10]at q;cases q);refine aI (by show(((B++((xs.drop 1).take i).flatMap dR)++[IntKind.u8.wrap (aN xs i).1])++[IntKind.u8.wrap (aN xs i).2.1]).length+1≤_;rw[←hC];simp only[List.length_append,List.length_singleton];omega) ?_
   refine lp Nat (fun j=>[(0,.sl 21000),(60,.int .i64 (j:Nat))]) (fun j=>[.bT 3 25 [.rsl aV xs],.bT 6 64 [.int .i64 (aN xs i).1,.int .i64 (aN xs i).2.1,.int .i64 (aN xs i).2.2.1,.rsl (.int .i64) (aN xs i).2.2.2.1,.rsl aQ (aN xs i).2.2.2.2],.row 21000 5 1 bn ((((C++[IntKind.u8.wrap (aN xs i).1])++[IntKind.u8.wrap (aN xs i).2.1])++[IntKind.u8.wrap (((aN xs i).2.2.2.1.length:Nat):Int)])++((aN xs i).2.2.2.1.take j).flatMap aX) []]) (fun j=>(aN xs i).2.2.2.1.length-j) (fun j=>j≤(aN xs i).2.2.2.1.length) 0 (Nat.zero_le _) ?_ ?_
   ·exact Go.Tr.hd [(21000,56)] rfl (aI rfl (aI ⟨rfl,rfl⟩ trivial)) ⟨trivial,⟨rfl,trivial⟩,trivial,⟨⟨rfl,rfl⟩,⟨rfl,rfl⟩,⟨rfl,rfl⟩,rfl,rfl,trivial⟩,⟨by rw[hC];exact(List.append_nil _).symm,nP⟩,trivial⟩
   intro j hj;have hfl:=dx aX 6 ((aN xs i).2.2.2.1.take j) fun x _=>dw x
   rw[List.length_take]at hfl;have hbl:((((C++[IntKind.u8.wrap (aN xs i).1])++[IntKind.u8.wrap (aN xs i).2.1])++[IntKind.u8.wrap (((aN xs i).2.2.2.1.length:Nat):Int)])++((aN xs i).2.2.2.1.take j).flatMap aX).length≤930100:=by simp only[List.length_append,List.length_singleton]at*;omega
   refine aI (fun q2=> ?_) (fun q2=> ?_)
   ·have hjl:j<(aN xs i).2.2.2.1.length:=qM q2;have he:elt (0:Int) (aN xs i).2.2.2.1 ((j:Nat):Int)=(aN xs i).2.2.2.1[j]:=by unfold Go.Tr.elt;rw[show((j:Nat):Int).toNat=j by omega,List.getD_eq_getElem?_getD,List.getElem?_eq_getElem hjl];rfl
    refine aI (show(0:Int)≤((j:Nat):Int)∧((j:Nat):Int)<(((aN xs i).2.2.2.1.length:Nat):Int) by omega) ?_;refine Or.inr (eI _ (eI _ (aI (pF _ (by omega) (elt (0:Int) (aN xs i).2.2.2.1 ((j:Nat):Int)) (by rw[he];exact hdi _ (List.getElem_mem hjl))) ?_)));refine aK (j+1) hjl ?_ (by show(aN xs i).2.2.2.1.length-(j+1)<(aN xs i).2.2.2.1.length-j;omega);exact Go.Tr.hd [(21000,66)] rfl (aI rfl (aI ⟨bD (by omega),rfl⟩ trivial)) ⟨trivial,⟨rfl,trivial⟩,trivial,⟨⟨rfl,rfl⟩,⟨rfl,rfl⟩,⟨rfl,rfl⟩,rfl,rfl,trivial⟩,⟨by show((((C++[IntKind.u8.wrap (aN xs i).1])++[IntKind.u8.wrap (aN xs i).2.1])++[IntKind.u8.wrap (((aN xs i).2.2.2.1.length:Nat):Int)])++((aN xs i).2.2.2.1.take j).flatMap aX)++aX (elt (0:Int) (aN xs i).2.2.2.1 ((j:Nat):Int))=_;rw[d9 aX _ hjl,he,List.append_assoc],nP⟩,trivial⟩
   have hje:j=(aN xs i).2.2.2.1.length:=Nat.le_antisymm hj (qI q2);subst hje;refine aI (fun q=>by have q:((aN xs i).1==9)=true:=q;rw[h9]at q;cases q) (fun _=> ?_);refine aK (i+1) hlt ?_ (by show(xs.drop 1).length-(i+1)<(xs.drop 1).length-i;omega);refine Go.Tr.hd [(20000,21000)] rfl (aI rfl (aI ⟨bD (by omega),rfl⟩ trivial)) ⟨trivial,⟨rfl,trivial⟩,⟨?_,nP⟩,trivial⟩;show(((C++[IntKind.u8.wrap (aN xs i).1])++[IntKind.u8.wrap (aN xs i).2.1])++[IntKind.u8.wrap (((aN xs i).2.2.2.1.length:Nat):Int)])++((aN xs i).2.2.2.1.take (aN xs i).2.2.2.1.length).flatMap aX=_
   rw[hC2,dR,hl,hv,h10,h9,List.take_length];simp only[cond_true,cond_false,List.append_assoc,List.nil_append,List.append_nil]
 have hge:i=(xs.drop 1).length:=Nat.le_antisymm hi (qI q1);subst hge;rw[List.take_length]at hCi;refine Or.inr (eI _ (eI _ (aI (Py hsm) ?_)));have hpl:(bF xs).length≤4*xs.length:=uD (pb:=fun _=>false) hsm.2 xs.length (Nat.le_refl _);refine lp Nat (fun k=>[(0,.sl 20000),(82,.int .i64 (k:Nat))]) (fun k=>[.bT 3 25 [.rsl aV xs],.row 80 60 2 aQ (bF xs) [],.row 20000 5 1 bn ((B++(xs.drop 1).flatMap dR)++((bF xs).take k).flatMap (kL xs)) []]) (fun k=>(bF xs).length-k) (fun k=>k≤(bF xs).length) 0 (Nat.zero_le _) ?_ ?_
 ·exact Go.Tr.hd [(20000,20000)] rfl (aI rfl (aI ⟨rfl,rfl⟩ trivial)) ⟨trivial,⟨rfl,trivial⟩,⟨rfl,nP⟩,⟨by rw[List.take_length];exact(List.append_nil _).symm,nP⟩,trivial⟩
 intro k hk;have hfl:=dx (kL xs) 7 ((bF xs).take k) fun p _=>Ap xs p
 rw[List.length_take]at hfl;obtain⟨D,hD⟩:∃D,D=(B++(xs.drop 1).flatMap dR)++((bF xs).take k).flatMap (kL xs):=⟨_,rfl⟩;have hDl:D.length≤950000:=by rw[hD];simp only[List.length_append]at*;omega
 refine aI (fun q2=> ?_) (fun q2=> ?_)
 ·have hlt:k<(bF xs).length:=qM q2;have hpe:elt (dflt aQ) (bF xs) ((k:Nat):Int)=(bF xs)[k]:=by unfold Go.Tr.elt;rw[show((k:Nat):Int).toNat=k by omega,List.getD_eq_getElem?_getD,List.getElem?_eq_getElem hlt];rfl
  have hpi:=Lr hlt;obtain⟨w1,w2,w3,w4⟩:=hok.wi _ hpi;have hD2:(B++(xs.drop 1).flatMap dR)++((bF xs).take (k+1)).flatMap (kL xs)=D++kL xs (elt (dflt aQ) (bF xs) ((k:Nat):Int)):=by rw[d9 (kL xs) (bF xs) hlt,←List.append_assoc,←hD,hpe]
  refine aI ⟨by omega,by omega⟩ ?_;refine Or.inr (eI _ (eI _ (aI (Pt hpi) ?_)));refine Or.inl (eI _ (aI (Uk (elt (dflt aQ) (bF xs) ((k:Nat):Int)) (aD xs (elt (dflt aQ) (bF xs) ((k:Nat):Int)))) ?_));refine aI (fun q3=> ?_) (fun q3=> ?_)
  ·have q3:jq (elt (dflt aQ) (bF xs) ((k:Nat):Int)) (aD xs (elt (dflt aQ) (bF xs) ((k:Nat):Int)))=true:=q3;have w2a:=w2.1;have w2b:=w2.2.1;have hel3:=dw (aD xs (elt (dflt aQ) (bF xs) ((k:Nat):Int))).1;refine Or.inr (eI _ (eI _ (aI (pF ((B++(xs.drop 1).flatMap dR)++((bF xs).take k).flatMap (kL xs)) (by rw[←hD];omega) (aD xs (elt (dflt aQ) (bF xs) ((k:Nat):Int))).1 (sK (by omega) (by omega))) ?_)));refine aI (by show(((B++(xs.drop 1).flatMap dR)++((bF xs).take k).flatMap (kL xs))++aX (aD xs (elt (dflt aQ) (bF xs) ((k:Nat):Int))).1).length+1≤_;rw[←hD,List.length_append];omega) ?_
   refine aI (by kernel_rfl) ?_;refine aK (k+1) hlt ?_ (by show(bF xs).length-(k+1)<(bF xs).length-k;omega);refine Go.Tr.hd [(20000,99)] rfl (aI rfl (aI ⟨bD (by omega),rfl⟩ trivial)) ⟨trivial,⟨rfl,trivial⟩,⟨rfl,nP⟩,⟨?_,nP⟩,trivial⟩;rw[hD2,kL,q3,hD];exact List.append_assoc _ _ _
  ·have q3:jq (elt (dflt aQ) (bF xs) ((k:Nat):Int)) (aD xs (elt (dflt aQ) (bF xs) ((k:Nat):Int)))=false:=q3;refine aK (k+1) hlt ?_ (by show(bF xs).length-(k+1)<(bF xs).length-k;omega);refine Go.Tr.hd [(20000,20000)] rfl (aI rfl (aI ⟨bD (by omega),rfl⟩ trivial)) ⟨trivial,⟨rfl,trivial⟩,⟨rfl,nP⟩,⟨?_,nP⟩,trivial⟩;rw[hD2,kL,q3,hD];exact(List.append_nil _).symm
 have hke:k=(bF xs).length:=Nat.le_antisymm hk (qI q2);subst hke;rw[List.take_length]at hD;have hfin:(B++(xs.drop 1).flatMap dR)++((bF xs).take (bF xs).length).flatMap (kL xs)=([]:List Int)++bZ xs:=by rw[List.take_length,hB,bZ];simp only[List.append_assoc]
 exact fin [(10000,20000)] (aI rfl ⟨⟨hfin,nP⟩,trivial⟩)
theorem wZ:bY Try.prog 23=true:=by kernel_rfl
theorem I5{xs:List ah}(hok:jY xs):(bZ xs).length≤60000:=by
 have l2:=hok.l2;have hsm:=OZ hok;have hpl:(bF xs).length≤4*xs.length:=uD (pb:=fun _=>false) hsm.2 xs.length (Nat.le_refl _);have h1:=dw ((xs.length:Nat):Int)
 have h2:=dx dR 40 (xs.drop 1) fun a ha=>by
  obtain⟨j,hj,rfl⟩:=List.mem_iff_getElem.1 ha;rw[←xU hj,Nv hj];have:j<xs.length-1:=by rw[List.length_drop]at hj;exact hj
  exact Ao (wf_data (hok.wf _ (by omega) (by omega)))
 have h3:=dx (kL xs) 7 (bF xs) fun p _=>Ap xs p
 rw[List.length_drop]at h2;unfold bZ;simp only[List.length_append];omega
theorem Gq(k:Int)(b:List Int)(h:b.length+10≤60000):aC Try.prog 44 [.int .u8 k,.sl 10000] (tB 10000 b) (.tup [.sl 10001,.int .i64 0]) (tB 10001 (bJ k b)++tB 10000 b):=
 aC.Jo (r2:=.tup [.sl 10001,.int .i64 0]) (ts2:=tB 10001 (bJ k b)) aS [5,22] Bf (Gp k b h) rfl rfl rfl
theorem Ot(k:Int)(b:List Int)(h:60000<b.length+10)(h2:b.length≤999990):aC Try.prog 44 [.int .u8 k,.sl 10000] (tB 10000 b) (.tup [.raw (.slice none 0 0),.int .i64 4]) (tB 10000 b):=
 aC.Jo (r2:=.tup [.raw (.slice none 0 0),.int .i64 4]) (ts2:=[]) aS [5,22] Bf (Mv k b h h2) rfl rfl rfl
theorem Ob(xs:List ah)(hok:jY xs)(h:(bZ xs).length+10≤60000):aC Try.prog 23 [.agg [.rsl aV xs]] [] (.tup [.sl 10000,.int .i64 0]) (tB 10000 (bJ 1 (bZ xs))):=by
 have hv:gW (gN xs)=true:=zP hok;refine aC.intro (nt:=12) aS mixed wZ Try.func23 rfl rfl rfl rfl rfl rfl ?_;refine Or.inl (eI _ (aI (Vu xs) ?_));refine aI (fun q=>by have q:(!gW (gN xs))=true:=q;rw[hv]at q;cases q) (fun _=> ?_);refine Or.inr (eI _ (eI _ (aI (NA xs hok) ?_)));refine Or.inr (eI _ (eI _ (aI (Gq 1 (bZ xs) h) ?_)));exact fin [(10000,9)] (aI rfl ⟨⟨rfl,nP⟩,trivial⟩)
theorem Mh(xs:List ah)(hok:jY xs)(h:60000<(bZ xs).length+10):aC Try.prog 23 [.agg [.rsl aV xs]] [] (.tup [.raw (.slice none 0 0),.int .i64 4]) []:=by
 have hv:gW (gN xs)=true:=zP hok;have hl:=I5 hok;refine aC.intro (nt:=12) aS mixed wZ Try.func23 rfl rfl rfl rfl rfl rfl ?_;refine Or.inl (eI _ (aI (Vu xs) ?_));refine aI (fun q=>by have q:(!gW (gN xs))=true:=q;rw[hv]at q;cases q) (fun _=> ?_);refine Or.inr (eI _ (eI _ (aI (NA xs hok) ?_)));refine Or.inr (eI _ (eI _ (aI (Ot 1 (bZ xs) h (by omega)) ?_)));exact fin [] (aI rfl trivial)
end Go.Proofs.Ytdpclbjjmhkgiaa
