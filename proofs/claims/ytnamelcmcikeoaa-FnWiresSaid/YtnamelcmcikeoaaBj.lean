
/- The wires of a net: half as many as ports; what a shuffle of them keeps. No program in it. -/
import Derived.Test.YtnamelcmcikeoaaBf
set_option linter.unusedSimpArgs false
set_option linter.unusedVariables false
set_option linter.unusedSectionVars false
namespace Go.Tr
open Go Go.RowKit Go.Proofs
def DZ(p q:aC):Bool:=decide (p.1<q.1)||(p.1==q.1&&decide (p.2<q.2))
theorem BS{p q:aC}:DZ p q=true↔p.1<q.1∨(p.1=q.1∧p.2<q.2):=by
 unfold DZ;simp only[Bool.or_eq_true,Bool.and_eq_true,decide_eq_true_eq,beq_iff_eq]
theorem HV{p q:aC}(h:p≠q):DZ q p= !DZ p q:=by
 rw[Bool.eq_iff_iff,Bool.not_eq_true',←Bool.not_eq_true,BS,BS];have hn:¬(p.1=q.1∧p.2=q.2):=fun⟨a,b⟩=>h (Prod.ext a b)
 omega
def fP(xs:List ah):List aC:=eB (fun _=>false) xs xs.length
theorem kN(xs:List ah)(p:aC):p∈fP xs↔aj xs p:=by
 unfold fP;rw[wE];unfold aj;simp
theorem rF(xs:List ah):(fP xs).Nodup:=uy _ _ _
theorem Ep(i k:Nat)(S:List aC):fJ (fun _=>false) i (k+1) S=fJ (fun _=>false) i k S++[(((i:Nat):Int),((k:Nat):Int))]:=by
 simp[fJ]
theorem xq(i:Nat)(S:List aC):∀k,(fJ (fun _=>false) i k S).length=S.length+k
 |0=>rfl
 |k+1=>by rw[Ep,List.length_append,xq i S k];simp;omega
theorem Eo(xs:List ah)(i:Nat):(eB (fun _=>false) xs (i+1)).length=(eB (fun _=>false) xs i).length+(ak xs (i:Nat)).2.2.2.2.length:=by
 rw[eB,xq]
abbrev iD:=aC×aC
def zD(xs:List ah)(p:aC):Bool:=DZ p (aB xs p)
def ou(xs:List ah)(l:List aC):List iD:=(l.filter (zD xs)).map fun p=>(p,aB xs p)
def bP(xs:List ah):List iD:=ou xs (fP xs)
theorem zT(xs:List ah)(l:List aC)(p:aC):ou xs (l++[p])=bif zD xs p then ou xs l++[(p,aB xs p)]else ou xs l:=by
 unfold ou;rw[List.filter_append,List.map_append];cases h:zD xs p<;>simp[h]
theorem DU(xs:List ah)(l:List aC):(ou xs l).length≤l.length:=by
 unfold ou;rw[List.length_map];exact List.length_filter_le _ _
theorem vE{α:Type}(p:α→Bool):∀l:List α,(l.filter p).length+(l.filter fun x=> !p x).length=l.length
 |[]=>rfl
 |x::l=>by
  have:=vE p l;cases h:p x<;>simp[h]<;>omega
section
variable {xs:List ah}(h:dX (fun p=>aj xs p) xs)
include h
theorem xC{p:aC}(hp:aj xs p):zD xs (aB xs p)= !zD xs p:=by
 obtain⟨_,_,h3,h4⟩:=h p hp;unfold zD;rw[h3];exact HV (Ne.symm h4)
theorem Fj:2*(bP xs).length=(fP xs).length:=by
 have e1:=vE (zD xs) (fP xs)
 have e2:(((fP xs).filter (zD xs)).map (aB xs)).Perm ((fP xs).filter fun p=> !zD xs p):=by
  refine(List.perm_ext_iff_of_nodup ?_ ((rF xs).filter _)).2 fun q=> ?_
  ·refine List.Pairwise.map _ ?_ (List.Pairwise.and_mem.1 ((rF xs).filter (zD xs)));intro a b ⟨ha,hb,hne⟩ he;rw[List.mem_filter,kN]at ha hb;have k1:=(h a ha.1).2.2.1;have k2:=(h b hb.1).2.2.1;exact hne (by rw[←k1,he,k2])
  ·rw[List.mem_map,List.mem_filter,kN];constructor
   ·rintro⟨p,hp,rfl⟩;rw[List.mem_filter,kN]at hp;exact⟨(h p hp.1).2.1,by rw[xC h hp.1,hp.2];rfl⟩
   ·rintro⟨hq,hb⟩;refine⟨aB xs q,?_,(h q hq).2.2.1⟩;rw[List.mem_filter,kN];exact⟨(h q hq).2.1,by rw[xC h hq];exact hb⟩
 have e3:=e2.length_eq;rw[List.length_map]at e3;unfold bP ou;rw[List.length_map];omega
end
structure NH(xs:List ah)(m:List iD):Prop where
 ok:∀i:Nat,i<m.length→aj xs (m.getD i ((0,0),(0,0))).1∧(m.getD i ((0,0),(0,0))).2=aB xs (m.getD i ((0,0),(0,0))).1
 ap:∀i j:Nat,i<m.length→j<m.length→i≠j→(m.getD i ((0,0),(0,0))).1≠(m.getD j ((0,0),(0,0))).1∧(m.getD i ((0,0),(0,0))).1≠(m.getD j ((0,0),(0,0))).2
theorem Nw{xs:List ah}(h:dX (fun p=>aj xs p) xs):NH xs (bP xs):=by
 have e:∀i:Nat,(hi:i<(bP xs).length)→∃p,p∈(fP xs).filter (zD xs)∧(bP xs).getD i ((0,0),(0,0))=(p,aB xs p)∧((fP xs).filter (zD xs))[i]? =some p:=fun i hi=>by
  have hi':i<((fP xs).filter (zD xs)).length:=by unfold bP ou at hi;rwa[List.length_map]at hi
  refine⟨((fP xs).filter (zD xs))[i],List.getElem_mem hi',?_,List.getElem?_eq_getElem hi'⟩;unfold bP ou;rw[List.getD_eq_getElem?_getD,List.getElem?_map,List.getElem?_eq_getElem hi'];rfl
 refine⟨fun i hi=> ?_,fun i j hi hj hne=> ?_⟩
 ·obtain⟨p,hp,hg,_⟩:=e i hi;rw[hg];rw[List.mem_filter,kN]at hp;exact⟨hp.1,rfl⟩
 ·obtain⟨p,hp,hg,hx⟩:=e i hi;obtain⟨q,hq,hg2,hy⟩:=e j hj;rw[hg,hg2];rw[List.mem_filter,kN]at hp hq;refine⟨fun he=> ?_,fun he=> ?_⟩
  ·have he:p=q:=he;subst he;rw[List.getElem?_eq_some_iff]at hx hy;obtain⟨hi1,e1⟩:=hx;obtain⟨hj1,e2⟩:=hy;exact hne ((List.getElem_inj ((rF xs).filter (zD xs))).1 (e1.trans e2.symm))
  ·have he:p=aB xs q:=he;have:=xC h hq.1;rw[←he,hp.2,hq.2]at this;cases this
def Dy(m:List iD)(i j:Nat):List iD:=(m.set i ((m.getD j ((0,0),(0,0))).2,(m.getD j ((0,0),(0,0))).1)).set j (m.getD i ((0,0),(0,0)))
theorem Dz(m:List iD)(i j:Nat):(Dy m i j).length=m.length:=by unfold Dy;simp
theorem Ni{m:List iD}{i j:Nat}(hi:i<m.length)(hj:j<m.length)(k:Nat):(Dy m i j).getD k ((0,0),(0,0))=if k=j then m.getD i ((0,0),(0,0))else if k=i then((m.getD j ((0,0),(0,0))).2,(m.getD j ((0,0),(0,0))).1)else m.getD k ((0,0),(0,0)):=by
 unfold Dy;rw[List.getD_eq_getElem?_getD (i:=k),List.getElem?_set,List.getElem?_set,List.length_set]
 by_cases h1:j=k
 ·subst h1;simp[hj]
 ·rw[if_neg h1,if_neg (Ne.symm h1)]
  by_cases h2:i=k
  ·subst h2;simp[hi]
  ·rw[if_neg h2,if_neg (Ne.symm h2),←List.getD_eq_getElem?_getD]
theorem NH.shu{xs:List ah}{m:List iD}(h:dX (fun p=>aj xs p) xs)(hm:NH xs m){i j:Nat}(hi:i<m.length)(hj:j<m.length):NH xs (Dy m i j):=by
 let f:Nat→Nat:=fun k=>if k=j then i else if k=i then j else k
 have hf:∀k,k<m.length→f k<m.length:=fun k hk=>by
  show(if k=j then i else if k=i then j else k)<_;split
  ·exact hi
  ·split
   ·exact hj
   ·exact hk
 have hinj:∀a b,f a=f b→a=b:=fun a b hab=>by
  have hab:(if a=j then i else if a=i then j else a)=(if b=j then i else if b=i then j else b):=hab;split at hab<;>split at hab<;>(try split at hab)<;>(try split at hab)<;>omega
 have hw:∀k,k<m.length→(Dy m i j).getD k ((0,0),(0,0))=m.getD (f k) ((0,0),(0,0))∨(Dy m i j).getD k ((0,0),(0,0))=((m.getD (f k) ((0,0),(0,0))).2,(m.getD (f k) ((0,0),(0,0))).1):=fun k _=>by
  rw[Ni hi hj];show _=m.getD (if k=j then i else if k=i then j else k) _∨_=((m.getD (if k=j then i else if k=i then j else k) _).2,(m.getD (if k=j then i else if k=i then j else k) _).1)
  by_cases h1:k=j
  ·rw[if_pos h1,if_pos h1];exact .inl rfl
  ·rw[if_neg h1,if_neg h1]
   by_cases h2:k=i
   ·rw[if_pos h2,if_pos h2];exact .inr rfl
   ·rw[if_neg h2,if_neg h2];exact .inl rfl
 have hl:=Dz m i j;refine⟨fun k hk=> ?_,fun a b ha hb hab=> ?_⟩
 ·rw[hl]at hk;obtain⟨k1,k2⟩:=hm.ok (f k) (hf k hk);obtain⟨w1,w2,w3,w4⟩:=h _ k1;rcases hw k hk with e|e
  ·rw[e];exact⟨k1,k2⟩
  ·rw[e,k2];exact⟨w2,w3.symm⟩
 ·rw[hl]at ha hb;have hfn:f a≠f b:=fun e=>hab (hinj _ _ e)
  obtain⟨a1,a2⟩:=hm.ok (f a) (hf a ha);obtain⟨b1,b2⟩:=hm.ok (f b) (hf b hb);obtain⟨c1,c2⟩:=hm.ap (f a) (f b) (hf a ha) (hf b hb) hfn;obtain⟨_,wa,wa2,_⟩:=h _ a1;obtain⟨_,wb,wb2,_⟩:=h _ b1;rw[b2]at c2;have c3:aB xs (m.getD (f a) ((0,0),(0,0))).1≠(m.getD (f b) ((0,0),(0,0))).1:=fun e=>c2 (by rw[←e,wa2])
  have c4:aB xs (m.getD (f a) ((0,0),(0,0))).1≠aB xs (m.getD (f b) ((0,0),(0,0))).1:=fun e=>c1 (by rw[←wa2,e,wb2])
  rcases hw a ha with ea|ea<;>rcases hw b hb with eb|eb<;>rw[ea,eb]
  ·exact⟨c1,by rw[b2];exact c2⟩
  ·exact⟨by show _≠(m.getD (f b) ((0,0),(0,0))).2;rw[b2];exact c2,c1⟩
  ·exact⟨by show(m.getD (f a) ((0,0),(0,0))).2≠_;rw[a2];exact c3,by show(m.getD (f a) ((0,0),(0,0))).2≠_;rw[a2,b2];exact c4⟩
  ·exact⟨by show(m.getD (f a) ((0,0),(0,0))).2≠(m.getD (f b) ((0,0),(0,0))).2;rw[a2,b2];exact c4,by show(m.getD (f a) ((0,0),(0,0))).2≠(m.getD (f b) ((0,0),(0,0))).1;rw[a2];exact c3⟩
end Go.Tr
