
/- A net is made again of its wires: the program's FromWires, walked. -/
import Derived.Test.YtnamelcmcikeoaaShort
import Derived.Test.YtnamelcmcikeoaaBk
import Derived.Test.YtnamelcmcikeoaaRa
import Derived.Test.YtnamelcmcikeoaaOa
set_option linter.unusedSimpArgs false
set_option linter.unusedVariables false
set_option linter.unusedSectionVars false
namespace Go.Proofs.Ytnamelcmcikeoaa
open Go Go.RowKit Go.Proofs Go.Tr
abbrev vW(w:iD):SV:=.agg [.int .i64 w.1.1,.int .i64 w.1.2,.int .i64 w.2.1,.int .i64 w.2.2]
def Gf(l:List aC):List ((Int×Int)×Bool):=l.map fun p=>(p,true)
theorem xR(q:aC):∀l:List aC,vV (Gf l) q=decide (q∈l)
 |[]=>rfl
 |p::l=>by
  have ih:=xR q l;show(bif p.1==q.1&&p.2==q.2 then true else vV (Gf l) q)=_;rw[ih]
  by_cases h:p=q
  ·subst h;simp
  ·have e:(p.1==q.1&&p.2==q.2)=false:=by
    rw[←Bool.not_eq_true,Bool.and_eq_true,beq_iff_eq,beq_iff_eq];exact fun⟨a,b⟩=>h (Prod.ext a b)
   rw[e];simp[Ne.symm h]
theorem xS(q:aC):∀l:List aC,q∉l→sV (Gf l) q true=Gf (l++[q])
 |[],_=>rfl
 |p::l,h=>by
  rw[List.mem_cons,not_or]at h;have ih:=xS q l h.2;show(bif p.1==q.1&&p.2==q.2 then(p,true)::Gf l else(p,true)::sV (Gf l) q true)=_
  have e:(p.1==q.1&&p.2==q.2)=false:=by
   rw[←Bool.not_eq_true,Bool.and_eq_true,beq_iff_eq,beq_iff_eq];exact fun⟨a,b⟩=>h.1 (Prod.ext a.symm b.symm)
  rw[e,ih];rfl
theorem ME(l:List aC):(Gf l).length=l.length:=List.length_map _
abbrev rQ(m:List iD)(i:Nat):iD:=m.getD i ((0,0),(0,0))
def lW(m:List iD):Nat→List aC
 |0=>[]
 |i+1=>lW m i++[(rQ m i).1]++[(rQ m i).2]
theorem zN(m:List iD):∀i,(lW m i).length=2*i
 |0=>rfl
 |i+1=>by rw[lW,List.length_append,List.length_append,zN m i];simp;omega
theorem uQ(m:List iD)(p:aC):∀i,p∈lW m i↔∃j,j<i∧(p=(rQ m j).1∨p=(rQ m j).2)
 |0=>⟨fun h=>(by cases h),fun⟨j,h,_⟩=>by omega⟩
 |i+1=>by
  rw[lW,List.mem_append,List.mem_append,uQ m p i,List.mem_singleton,List.mem_singleton];constructor
  ·rintro((⟨j,h,e⟩|e)|e)
   ·exact⟨j,by omega,e⟩
   ·exact⟨i,by omega,.inl e⟩
   ·exact⟨i,by omega,.inr e⟩
  ·rintro⟨j,h,e⟩
   by_cases hj:j=i
   ·subst hj;exact e.elim (fun e=>.inl (.inr e)) .inr
   ·exact .inl (.inl ⟨j,by omega,e⟩)
section
variable {xs:List ah}{m:List iD}(h:dX (fun p=>aj xs p) xs)(hm:NH xs m)
include h hm
theorem RI{i:Nat}(hi:i<m.length):(rQ m i).1∉lW m i:=by
 rw[uQ];rintro⟨j,hj,e⟩;obtain⟨c1,c2⟩:=hm.ap i j hi (by omega) (by omega);exact e.elim c1 c2
theorem Ov{i:Nat}(hi:i<m.length):(rQ m i).2∉lW m i++[(rQ m i).1]:=by
 obtain⟨a1,a2⟩:=hm.ok i hi;obtain⟨_,_,w3,w4⟩:=h _ a1;rw[List.mem_append,List.mem_singleton,uQ];rintro(⟨j,hj,e⟩|e)
 ·obtain⟨c1,c2⟩:=hm.ap i j hi (by omega) (by omega);obtain⟨b1,b2⟩:=hm.ok j (by omega);obtain⟨_,_,v3,v4⟩:=h _ b1;rw[a2]at e;rcases e with e|e
  ·refine c2 ?_;rw[b2];show(rQ m i).1=aB xs (rQ m j).1;rw[←e];exact w3.symm
  ·rw[show(rQ m j).2=aB xs (rQ m j).1 from b2]at e;refine c1 ?_;have:=congrArg (aB xs) e;rw[v3]at this;rw[←w3];exact this
 ·rw[a2]at e;exact w4 e
theorem Qa{i:Nat}(hi:i<m.length):(rQ m i).1≠(rQ m i).2:=fun e=>Ov h hm hi (by rw[←e];simp)
end
theorem zS{xs:List ah}{p:aC}(h:aj xs p):aG xs p (aB xs p)=xs:=by
 obtain⟨h1,h2,h3,h4⟩:=h;have hn:p.1.toNat<xs.length:=(Int.toNat_lt h1).2 h2;have hk:p.2.toNat<(ak xs p.1).2.2.2.2.length:=(Int.toNat_lt h3).2 h4
 have e1:(ak xs p.1).2.2.2.2.set p.2.toNat (aB xs p)=(ak xs p.1).2.2.2.2:=by
  unfold aB;show(ak xs p.1).2.2.2.2.set p.2.toNat (elt (dflt aO) (ak xs p.1).2.2.2.2 p.2)=_;unfold elt;rw[List.getD_eq_getElem?_getD,List.getElem?_eq_getElem hk];exact List.set_getElem_self hk
 unfold aG;rw[e1];unfold ak elt;rw[List.getD_eq_getElem?_getD,List.getElem?_eq_getElem hn];exact List.set_getElem_self hn
theorem Io{xs:List ah}{p q:aC}(hw:dX (fun p=>aj xs p) xs)(hp:aj xs p)(hq:q=aB xs p):aT xs p q=xs:=by
 subst hq;obtain⟨_,h2,h3,_⟩:=hw p hp;unfold aT;rw[zS hp];have:=zS h2
 rwa[h3]at this
theorem Sj(xs:List ah)(w:iD)(h1:aj xs w.1)(h2:aj xs w.2):aP Try.prog 24 [vW w,.rp (.sl aL) xs] (.bool false):=by
 refine aP.intro (nt:=16) aS mixed (by kernel_rfl) Try.func24 rfl rfl rfl rfl rfl ?_;refine Or.inl (eI _ (aI (J9 xs w.1) ?_));refine Or.inl (eI _ (aI (fun _=>J9 xs w.2) ?_));show(bif !hasB xs w.1 then true else !hasB xs w.2)=false;rw[xA.2 h1,xA.2 h2];rfl
theorem CY:bS Try.prog 26=true:=by kernel_rfl
set_option maxRecDepth 100000 in
theorem Pf(xs:List ah)(us:List Value)(p q:aC)(hp:aj xs p)(hq:aj xs q):aH Try.prog 26 [.ptr 10000 0,vP p,vP q] (tA xs us) (.tup []) (tA (aT xs p q) us):=by
 refine aH.expose CY ?_;intro us' hpre hlen
 skip
 have hq':aj (aG xs p q) q:=hq.set;obtain⟨p1,p2,p3,p4⟩:=hp;obtain⟨q1,q2,q3,q4⟩:=hq';have q2':q.1<(xs.length:Nat):=by rwa[dF]at q2
 refine aH.intro (nt:=32) aS mixed CY Try.func26 rfl rfl rfl rfl rfl rfl ?_;refine aI ⟨p1,p2⟩ ?_;refine aI (vM hlen p1 p2) ?_;refine aI ⟨p3,p4⟩ ?_;refine eI 10001 (aI ⟨⟨p1,p2,BF hlen p1 p2 (by decide)⟩,p3,p4⟩ ?_);refine aI (by kernel_rfl) ?_;refine aI ⟨q1,q2⟩ ?_;refine aI (vM hlen q1 q2') ?_;refine aI ⟨q3,q4⟩ ?_;refine eI 10001 (aI ⟨⟨q1,q2,BF hlen q1 q2' (by decide)⟩,q3,q4⟩ ?_);refine aI (by kernel_rfl) ?_;refine fin [] (aI rfl ?_);exact⟨trivial,⟨rfl,trivial⟩,⟨rfl,hpre⟩,trivial⟩
theorem KA:bS Try.prog 37=true:=by kernel_rfl
theorem Sl(m:List iD)(f:Nat)(xs:List ah)(hf:∀i:Nat,i<m.length→aP Try.prog f [vW (elt (dflt bW) m ((i:Nat):Int)),.rp (.sl aL) xs] (.bool false)):aP Try.prog 37 [.rsl bW m,.fn f [.rp (.sl aL) xs]] (.int .i64 (-1)):=by
 refine aP.Rq KA fun hl=> ?_
 refine aP.intro (nt:=19) aS mixed KA Try.func37 rfl rfl rfl rfl rfl ?_;refine lp Nat (fun i=>[(8,.int .i64 (i:Nat))]) (fun _=>[]) (fun i=>m.length-i) (fun i=>i≤m.length) 0 (Nat.zero_le _) ?_ ?_
 ·exact Go.Tr.hd [] rfl (aI (aI rfl rfl) trivial) trivial
 intro i hi;refine aI (fun q1=> ?_) (fun q1=> ?_)
 ·have hlt:i<m.length:=yX q1;have hi3:(0:Int)≤((i:Nat):Int)∧((i:Nat):Int)<(m.length:Nat):=⟨by omega,by omega⟩;refine aI hi3 ?_;refine Or.inl (eI _ (aI (hf i hlt) ?_));refine aI (fun q2=>by cases q2) (fun _=> ?_);refine aJ (i+1) hlt ?_ (by show m.length-(i+1)<m.length-i;omega);exact Go.Tr.hd [] rfl (aI (aI (IntWalk.i64_in _ (by omega)) rfl) trivial) trivial
 ·exact⟨rfl,rfl⟩
theorem Kz:bS Try.prog 23=true:=by kernel_rfl
theorem R7(m:List iD)(f:Nat)(xs:List ah)(hf:∀i:Nat,i<m.length→aP Try.prog f [vW (elt (dflt bW) m ((i:Nat):Int)),.rp (.sl aL) xs] (.bool false)):aP Try.prog 23 [.rsl bW m,.fn f [.rp (.sl aL) xs]] (.bool false):=by
 refine aP.intro (nt:=9) aS mixed Kz Try.func23 rfl rfl rfl rfl rfl ?_;refine Or.inl (eI _ (aI (Sl m f xs hf) ?_));exact rfl
theorem Qe(xs:List ah):aP Try.prog 22 [.rsl aL xs] (.bool (cO (xs.map gA))):=
 aP.Q7 (by kernel_rfl) (fun w A c bs h=>qJ (xs.map gA) xs.length w (by rw[F9];exact h) (List.length_map _)) (fun _ _=>zi _)
theorem Ku{xs:List ah}(nn:ow xs):oK xs:=by
 have hl2:=nn.l2;refine⟨by omega,fun i=> ?_⟩
 by_cases hi:i<xs.length
 ·have w:=nn.wf (i:Nat) (by omega) (by omega);have h1:=wf_data w;have h2:=(nL w).2;exact⟨by show(ak xs (i:Nat)).2.2.2.1.length≤1048576;omega,by show(ak xs (i:Nat)).2.2.2.2.length≤1048576;omega⟩
 ·rw[wM (by omega)];decide
theorem Oa:bS Try.prog 10=true:=by kernel_rfl
theorem QI(m:List iD)(i:Nat):elt (dflt bW) m ((i:Nat):Int)=rQ m i:=by
 unfold elt;rw[show(((i:Nat):Int)).toNat=i by omega];rfl
theorem Px{xs:List ah}(h:Hu xs)(us:List Value):aH Try.prog 15 [.ptr 10000 0] (tA xs us) (.sl 10002) (.row 10002 36 2 aO (fP xs) []::tA xs us):=
 aH.MQ (r2:=.sl 10002) (ts2:=[.row 10002 36 2 aO (fP xs) []]) aS [54] Ba (KL xs h) rfl rfl rfl
set_option maxRecDepth 100000 in
theorem Si(xs:List ah)(m:List iD)(hok:ow xs)(hm:NH xs m)(hl:2*m.length=(fP xs).length):aH Try.prog 10 [.rsl aL xs,.rsl bW m] [] (.tup [.agg [.sl 10000],.int .i64 0]) [.row 10000 34 5 aL xs []]:=by
 have hsm:=Gn hok;have hl4:(fP xs).length≤4*xs.length:=iW (pb:=fun _=>false) hsm.2 xs.length (Nat.le_refl _);have hl2:=hok.l2
 have hag:cO (xs.map gA)=true:=by
  have:=wG hok;unfold mo at this;rw[Bool.and_eq_true]at this;exact this.1
 refine aH.intro (nt:=65) aS mixed Oa Try.func10 rfl rfl rfl rfl rfl rfl ?_;refine Or.inl (eI _ (aI (Qe xs) ?_));refine aI (fun q=>by have q:(!cO (xs.map gA))=true:=q;rw[hag]at q;cases q) (fun _=> ?_)
 have hcl:∀i:Nat,i<m.length→aP Try.prog 24 [vW (elt (dflt bW) m ((i:Nat):Int)),.rp (.sl aL) xs] (.bool false):=fun i hi=>by
  obtain⟨a1,a2⟩:=hm.ok i hi;rw[QI];exact Sj xs _ a1 (by rw[a2];exact(hok.wi _ a1).2.1)
 have con:aH Try.prog 23 [.rsl bW m,.fn 24 [.ptr 10000 0]] [.aN 10000 24 [.rsl aL xs]] (.bool false) [.aN 10000 24 [.rsl aL xs]]:=
  aH.IJ aS [0,0] Kz (R7 m _ _ hcl) rfl
 refine Or.inr (eI _ (eI _ (aI con ?_)));refine aI (fun q=>by cases q) (fun _=> ?_);refine Or.inr (eI _ (eI _ (aI (Jy xs (Ku hok)) ?_)));refine lp Nat (fun i=>[(24,.int .i64 (i:Nat))]) (fun i=>[.aN 2 24 [.rsl aL xs],.aN 4 26 [.raw (.slice none 0 0)],.aN 6 26 [.sl 20],.row 20 34 5 aL xs [],.pmap 21 (Gf (lW m i))]) (fun i=>m.length-i) (fun i=>i≤m.length) 0 (Nat.zero_le _) ?_ ?_
 ·refine hd [] rfl (aI ⟨rfl,rfl⟩ trivial) ?_;exact⟨trivial,⟨rfl,trivial⟩,trivial,⟨rfl,trivial⟩,trivial,⟨rfl,trivial⟩,⟨rfl,nP⟩,rfl,trivial⟩
 intro i hi;refine aI (fun q1=> ?_) (fun q1=> ?_)
 ·have hlt:i<m.length:=yX q1;have hi3:(0:Int)≤((i:Nat):Int)∧((i:Nat):Int)<(m.length:Nat):=⟨by omega,by omega⟩;have hw1:=RI hok.wi hm hlt;have hw2:=Ov hok.wi hm hlt;have hwn:=Qa hok.wi hm hlt;obtain⟨a1,a2⟩:=hm.ok i hlt;have b1:aj xs (rQ m i).2:=by show aj xs (m.getD i ((0,0),(0,0))).2;rw[a2];exact(hok.wi _ a1).2.1
  have hlk:=Pf xs [] (rQ m i).1 (rQ m i).2 a1 b1;rw[Io hok.wi a1 a2]at hlk
  have hc:(bif (bif bX [(rQ m i).1.1,(rQ m i).1.2] [(rQ m i).2.1,(rQ m i).2.2]then true else vV (Gf (lW m i)) (rQ m i).1)then true else vV (Gf (lW m i)) (rQ m i).2)=false:=by
   have hw3:(rQ m i).2∉lW m i:=fun h=>hw2 (List.mem_append_left _ h)
   rw[xR,xR,decide_eq_false hw1,decide_eq_false hw3]
   have:bX [(rQ m i).1.1,(rQ m i).1.2] [(rQ m i).2.1,(rQ m i).2.2]=false:=by
    rw[←Bool.not_eq_true];intro e;simp[bX]at e;exact hwn (Prod.ext e.1 e.2)
   rw[this];rfl
  have hkv:sV (sV (Gf (lW m i)) (rQ m i).1 true) (rQ m i).2 true=Gf (lW m (i+1)):=by
   rw[xS _ _ hw1,xS _ _ hw2];rfl
  refine aI hi3 ?_;refine aI ⟨by kernel_rfl,rfl⟩ ?_;refine aI (fun q=>absurd (hc.symm.trans q) (by decide)) (fun _=> ?_);refine aI (by kernel_rfl) ?_;refine Or.inr (eI _ (eI _ (aI hlk ?_)));refine aJ (i+1) hlt ?_ (by show m.length-(i+1)<m.length-i;omega);refine hd [] rfl (aI ⟨eu (by omega),rfl⟩ trivial) ?_;exact⟨trivial,⟨rfl,trivial⟩,trivial,⟨rfl,trivial⟩,trivial,⟨rfl,trivial⟩,⟨rfl,nP⟩,hkv,trivial⟩
 have hge:i=m.length:=Nat.le_antisymm hi (Cu q1);subst hge;refine Or.inr (eI _ (eI _ (aI (Px hsm []) ?_)));refine aI (fun q=> ?_) (fun _=> ?_)
 ·have e:(((Gf (lW m m.length)).length:Nat):Int)=(((fP xs).length:Nat):Int):=by rw[ME,zN,hl]
  have q':(!(((((Gf (lW m m.length)).length:Nat):Int))==(((fP xs).length:Nat):Int)))=true:=q;rw[e,beq_self_eq_true]at q';cases q'
 refine fin [(10000,20)] (aI rfl ?_);exact⟨⟨rfl,nP⟩,trivial⟩
end Go.Proofs.Ytnamelcmcikeoaa
