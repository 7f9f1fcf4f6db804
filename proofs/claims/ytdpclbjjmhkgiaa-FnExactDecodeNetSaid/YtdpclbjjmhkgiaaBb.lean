
/- Drawn nets: the states on the way, and that a drawn net is valid. No program in it. -/
import Derived.Test.YtdpclbjjmhkgiaaNw
import Derived.Test.YtdpclbjjmhkgiaaBa
set_option linter.unusedSimpArgs false
set_option linter.unusedVariables false
namespace Go.Tr
open Go Go.RowKit
theorem MV{xs:List ah}{p:aB}(h:aj xs p):iT (xs.map gA) (gP p)=true:=by
 obtain⟨h1,h2,h3,h4⟩:=h;unfold iT;have e:(gP p).agent=p.1:=rfl;have e2:(gP p).slot=p.2:=rfl;rw[Bool.and_eq_true,vk,qj,e,e2,List.length_map,List.length_map,show((p.1.toNat:Nat):Int)=p.1 by omega];have h4:p.2<((ak xs p.1).2.2.2.2.length:Nat):=h4;unfold iy;simp;omega
theorem zP{xs:List ah}(h:jY xs):gW (gN xs)=true:=by
 have hag:(gN xs).agents=xs.map gA:=rfl;have l1:=h.l1;have l2:=h.l2;unfold gW;rw[Bool.and_eq_true,hag,List.length_map];refine⟨?_,?_⟩
 ·unfold bP;rw[Bool.and_eq_true,List.length_map];refine⟨by unfold iy;simp;omega,?_⟩
  have key:∀i,i<xs.length→eP (xs.map gA) i=true:=fun i hi=>by
   unfold eP;have hw:eO (gA (ak xs (i:Nat)))=true:=h.wf (i:Nat) (by omega) (by omega);have hr:=h.rt (i:Nat) (by omega) (by omega);rw[vk,hw];have e:(gA (ak xs (i:Nat))).kind=(ak xs (i:Nat)).1:=rfl;rw[e]
   by_cases h0:i=0
   ·subst h0;rw[hr.2 rfl];rfl
   ·have h1:((ak xs (i:Nat)).1==1)=false:=by
     rw[beq_eq_false_iff_ne];intro e;have:=hr.1 e;omega
    have h2:(((i:Nat):Int)==0)=false:=by rw[beq_eq_false_iff_ne];omega
    rw[h1,h2];rfl
  simpa[dZ]using key
 ·have key:∀i,i<xs.length→uP (xs.map gA) i=true:=fun i hi=>by
   unfold uP;rw[vk,qj,List.length_map]
   have key2:∀k,k<(ak xs (i:Nat)).2.2.2.2.length→xO (xs.map gA) ⟨(i:Nat),(k:Nat)⟩ (jW ((ak xs (i:Nat)).2.2.2.2.map gP) k)=true:=fun k hk=>by
    have hp:aj xs (((i:Nat):Int),((k:Nat):Int)):=⟨by show(0:Int)≤(i:Nat);omega,by show((i:Nat):Int)<_;omega,by show(0:Int)≤(k:Nat);omega,by show((k:Nat):Int)<((ak xs (i:Nat)).2.2.2.2.length:Nat);omega⟩;obtain⟨_,h2,h3,h4⟩:=h.wi _ hp;rw[KL];have hpe:aD xs (((i:Nat):Int),((k:Nat):Int))=elt (dflt aQ) (ak xs (i:Nat)).2.2.2.2 (k:Nat):=rfl;rw[←hpe];generalize aD xs (((i:Nat):Int),((k:Nat):Int))=q at*;have hge:(⟨((i:Nat):Int),((k:Nat):Int)⟩:aF)=gP (((i:Nat):Int),((k:Nat):Int)):=rfl
    rw[hge];unfold xO;simp only[Bool.and_eq_true,Bool.not_eq_true'];refine⟨⟨?_,?_⟩,?_⟩
    ·have:gP q≠gP (((i:Nat):Int),((k:Nat):Int)):=fun e=>h4 (Ow e)
     exact lV this
    ·exact MV h2
    ·have e:mh (xs.map gA) (gP q)=gP (aD xs q):=by
      obtain⟨r1,r2,r3,r4⟩:=h2;unfold mh;have er:(gP q).agent=q.1:=rfl;have er2:(gP q).slot=q.2:=rfl;rw[er,er2,vk,qj,KL,show((q.1.toNat:Nat):Int)=q.1 by omega,show((q.2.toNat:Nat):Int)=q.2 by omega];rfl
     rw[e,h3];exact lD _
   simpa[dZ]using key2
  simpa[dZ]using key
structure Qw(A:Int→Prop)(xs:List ah):Prop where
 l1:1≤xs.length
 wf:∀i:Nat,i<xs.length→Wf (ak xs (i:Nat))
 rt:∀i:Nat,i<xs.length→((ak xs (i:Nat)).1=1↔i=0)
 a1:∀i,A i→1≤i∧i<(xs.length:Nat)
 wi:fE (fun p=>p.2=0∧A p.1) xs
 ze:∀i:Nat,i<xs.length→¬A (i:Nat)→∀k:Int,aD xs (((i:Nat):Int),k)=(0,0)
theorem Nc{n:Nat}(k:Int):elt (dflt aQ) (List.replicate n ((0:Int),(0:Int))) k=(0,0):=by
 unfold elt;rw[List.getD_eq_getElem?_getD,List.getElem?_replicate];split<;>rfl
theorem zX{xs zs:List ah}{i:Nat}(h:i<xs.length):ak (xs++zs) (i:Nat)=ak xs (i:Nat):=by
 unfold ak elt;rw[Int.toNat_natCast,List.getD_eq_getElem?_getD,List.getD_eq_getElem?_getD,List.getElem?_append_left h]
theorem vF(xs zs:List ah)(k:Nat):ak (xs++zs) ((xs.length+k:Nat):Int)=ak zs (k:Nat):=by
 unfold ak elt;rw[Int.toNat_natCast,Int.toNat_natCast,List.getD_eq_getElem?_getD,List.getD_eq_getElem?_getD,List.getElem?_append_right (by omega),Nat.add_sub_cancel_left]
theorem Sz.wf{k lv:Int}{a:ah}(h:Sz k lv a)(hk:kV k=true)(hl:Ez lv=true):Wf a:=h.agent hk hl
theorem Sz.ze{k lv:Int}{a:ah}(h:Sz k lv a)(s:Int):elt (dflt aQ) a.2.2.2.2 s=(0,0):=by
 obtain⟨n,_,_,e,_⟩:=h.prt;rw[e];exact Nc s
theorem Qw.root{lv:Int}{a:ah}(h:Sz 1 lv a)(hl:Ez lv=true):Qw (fun _=>False) [a]:=by
 refine⟨by simp,fun i hi=> ?_,fun i hi=> ?_,fun i h=>h.elim,fun p h=>h.2.elim,fun i hi _ k=> ?_⟩
 all_goals
  have hi0:i=0:=by simp at hi;exact hi
  subst hi0
 ·exact h.wf (by decide) hl
 ·exact⟨fun _=>rfl,fun _=>h.kind⟩
 ·exact h.ze k
theorem Iy{xs:List ah}{i:Nat}(hi:i<xs.length)(h:Wf (ak xs (i:Nat))):aj xs (((i:Nat):Int),0):=by
 have:=(eU h).2.2.2;exact⟨by show(0:Int)≤(i:Nat);omega,by show((i:Nat):Int)<_;omega,Int.le_refl 0,by show(0:Int)<((ak xs (i:Nat)).2.2.2.2.length:Nat);omega⟩
theorem Qw.pair{A:Int→Prop}{xs:List ah}(h:Qw A xs){n:Nat}(hn:xs.length=n+2)(ha:¬A (n:Nat))(hb:¬A ((n+1:Nat):Int))(h1:1≤n):Qw (fun i=>A i∨i=(n:Nat)∨i=((n+1:Nat):Int)) (bf xs (((n:Nat):Int),0) (((n+1:Nat):Int),0)):=by
 have pa:=Iy (by omega) (h.wf n (by omega));have pb:=Iy (i:=n+1) (by omega) (h.wf (n+1) (by omega));have hs:bH (bf xs (((n:Nat):Int),0) (((n+1:Nat):Int),0)) xs:=(bH.refl xs).link _ _;have hsl:∀i:Nat,i<xs.length→sig (ak (bf xs (((n:Nat):Int),0) (((n+1:Nat):Int),0)) (i:Nat))=sig (ak xs (i:Nat)):=fun i hi=>hs.2 (i:Nat) (by omega) (by rw[hs.1];omega)
 refine⟨by rw[eG];exact h.l1,fun i hi=> ?_,fun i hi=> ?_,fun i hi=> ?_,?_,fun i hi hA k=> ?_⟩
 ·rw[eG]at hi;exact(BO (hsl i hi)).2 (h.wf i hi)
 ·rw[eG]at hi;have e:(ak (bf xs (((n:Nat):Int),0) (((n+1:Nat):Int),0)) (i:Nat)).1=(ak xs (i:Nat)).1:=(Prod.mk.inj (hsl i hi)).1;rw[e];exact h.rt i hi
 ·rw[eG];rcases hi with hi|rfl|rfl
  ·exact h.a1 i hi
  ·omega
  ·omega
 ·refine(h.wi.link pa pb (fun e=>ha e.2) (fun e=>hb e.2) (fun e=>by have:=congrArg Prod.fst e;simp only at this;omega)).congr fun p=> ?_
  constructor
  ·rintro⟨e1,e2|e2|e2⟩
   ·exact .inl ⟨e1,e2⟩
   ·exact .inr (.inl (dh e2 e1))
   ·exact .inr (.inr (dh e2 e1))
  ·rintro(⟨e1,e2⟩|rfl|rfl)
   ·exact⟨e1,.inl e2⟩
   ·exact⟨rfl,.inr (.inl rfl)⟩
   ·exact⟨rfl,.inr (.inr rfl)⟩
 ·rw[eG]at hi;have h2:¬A (i:Nat):=fun e=>hA (.inl e)
  have h3:i≠n:=fun e=>hA (.inr (.inl (by rw[e])))
  have h4:i≠n+1:=fun e=>hA (.inr (.inr (by rw[e])))
  have e:ak (bf xs (((n:Nat):Int),0) (((n+1:Nat):Int),0)) (i:Nat)=ak xs (i:Nat):=by
   unfold bf;rw[dK,if_neg (by intro e;have:=e.1;simp only[Int.toNat_natCast]at this;omega),dK,if_neg (by intro e;have:=e.1;simp only[Int.toNat_natCast]at this;omega)]
  show elt _ (ak _ (i:Nat)).2.2.2.2 k=_;rw[e];exact h.ze i hi h2 k
structure V8(S:List aB)(xs:List ah):Prop where
 l1:1≤xs.length
 wf:∀i:Nat,i<xs.length→Wf (ak xs (i:Nat))
 rt:∀i:Nat,i<xs.length→((ak xs (i:Nat)).1=1↔i=0)
 wi:fE (fun p=>aj xs p∧p∉S) xs
 nd:S.Nodup
 si:∀p∈S,aj xs p
theorem Qw.free{A:Int→Prop}{xs:List ah}(h:Qw A xs){S:List aB}(nd:S.Nodup)(hS:∀p,p∈S↔aj xs p∧¬(p.2=0∧A p.1)):V8 S xs:=by
 refine⟨h.l1,h.wf,h.rt,h.wi.congr fun p=> ?_,nd,fun p hp=>((hS p).1 hp).1⟩;constructor
 ·rintro⟨h1,h2⟩;exact Classical.byContradiction fun e=>h2 ((hS p).2 ⟨h1,e⟩)
 ·intro h1;exact⟨(h.wi p h1).1,fun e=>((hS p).1 e).2 h1⟩
theorem V8.add{S:List aB}{xs:List ah}(h:V8 S xs){k lv:Int}{a:ah}(ha:Sz k lv a)(hk:kV k=true)(hk1:k≠1)(hl:Ez lv=true)(h5:a.2.2.2.2.length=1):V8 (S++[(((xs.length:Nat):Int),0)]) (xs++[a]):=by
 have hl1:=h.l1;have hnot:∀p,aj xs p→p.1≠(xs.length:Nat):=fun p hp e=>by have:=hp.2.1;omega
 have hin:∀p,aj (xs++[a]) p→aj xs p∨p=(((xs.length:Nat):Int),0):=fun p hp=>by
  obtain⟨q1,q2,q3,q4⟩:=hp;rw[List.length_append,List.length_singleton]at q2;have ep:((p.1.toNat:Nat):Int)=p.1:=by omega
  by_cases hlt:p.1<(xs.length:Nat)
  ·have e:=zX (xs:=xs) (zs:=[a]) (i:=p.1.toNat) (by omega);rw[ep]at e;rw[e]at q4;exact .inl ⟨q1,hlt,q3,q4⟩
  ·have e1:p.1=(xs.length:Nat):=by omega
   have e:=vF xs [a] 0;rw[Nat.add_zero,←e1]at e;rw[e]at q4;have q4:p.2<(a.2.2.2.2.length:Nat):=q4;exact .inr (dh e1 (by show p.2=0;omega))
 have hnew:aj (xs++[a]) (((xs.length:Nat):Int),0):=by
  have e:=vF xs [a] 0;rw[Nat.add_zero]at e;refine⟨by show(0:Int)≤(xs.length:Nat);omega,by show((xs.length:Nat):Int)<_;rw[List.length_append,List.length_singleton];omega,Int.le_refl 0,?_⟩;show(0:Int)<((ak (xs++[a]) (xs.length:Nat)).2.2.2.2.length:Nat);rw[e];show(0:Int)<(a.2.2.2.2.length:Nat);omega
 have at_:∀i:Nat,i<(xs++[a]).length→(i<xs.length∧ak (xs++[a]) (i:Nat)=ak xs (i:Nat))∨(i=xs.length∧ak (xs++[a]) (i:Nat)=a):=fun i hi=>by
  rw[List.length_append,List.length_singleton]at hi
  by_cases hlt:i<xs.length
  ·exact .inl ⟨hlt,zX hlt⟩
  ·have hi:i=xs.length:=by omega
   subst hi;exact .inr ⟨rfl,vF xs [a] 0⟩
 refine⟨by rw[List.length_append];omega,fun i hi=> ?_,fun i hi=> ?_,(h.wi.app [a]).congr fun p=> ?_,?_,fun p hp=> ?_⟩
 ·rcases at_ i hi with⟨h1,h2⟩|⟨h1,h2⟩
  ·rw[h2];exact h.wf i h1
  ·rw[h2];exact ha.wf hk hl
 ·rcases at_ i hi with⟨h1,h2⟩|⟨h1,h2⟩
  ·rw[h2];exact h.rt i h1
  ·rw[h2,ha.kind];exact⟨fun e=>absurd e hk1,fun e=>by omega⟩
 ·constructor
  ·rintro⟨h1,h2⟩;rcases hin p h1 with h1|rfl
   ·exact⟨h1,fun e=>h2 (List.mem_append_left _ e)⟩
   ·exact absurd (List.mem_append_right _ (List.mem_singleton.2 rfl)) h2
  ·rintro⟨h1,h2⟩;refine⟨h1.app,fun e=> ?_⟩;rcases List.mem_append.1 e with e|e
   ·exact h2 e
   ·rw[List.mem_singleton]at e;exact hnot p h1 (by rw[e])
 ·refine List.nodup_append.2 ⟨h.nd,by simp,fun p hp q hq e=> ?_⟩;rw[List.mem_singleton]at hq;subst e;exact hnot p (h.si p hp) (by rw[hq])
 ·rcases List.mem_append.1 hp with hp|hp
  ·exact(h.si p hp).app
  ·rw[List.mem_singleton]at hp;subst hp;exact hnew
theorem V8.done{xs:List ah}(h:V8 [] xs)(hl:xs.length≤600):jY xs:=by
 refine⟨h.l1,hl,fun i h0 h1=> ?_,fun i h0 h1=> ?_,h.wi.congr fun p=>by simp⟩
 ·have:=h.wf i.toNat (by omega)
  rwa[show((i.toNat:Nat):Int)=i by omega]at this
 ·have:=h.rt i.toNat (by omega);rw[show((i.toNat:Nat):Int)=i by omega]at this;rw[this];omega
end Go.Tr
