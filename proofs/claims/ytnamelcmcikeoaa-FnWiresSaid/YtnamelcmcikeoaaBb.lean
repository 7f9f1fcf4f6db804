
/- Drawn nets: the states on the way, and that a drawn net is valid. No program in it. -/
import Derived.Test.YtnamelcmcikeoaaNw
import Derived.Test.YtnamelcmcikeoaaBa
set_option linter.unusedSimpArgs false
set_option linter.unusedVariables false
namespace Go.Tr
open Go Go.RowKit
theorem IU{xs:List ah}{p:aC}(h:aj xs p):fH (xs.map gA) (gP p)=true:=by
 obtain⟨h1,h2,h3,h4⟩:=h;unfold fH;have e:(gP p).agent=p.1:=rfl;have e2:(gP p).slot=p.2:=rfl;rw[Bool.and_eq_true,F8,xw,e,e2,List.length_map,List.length_map,show((p.1.toNat:Nat):Int)=p.1 by omega];have h4:p.2<((ak xs p.1).2.2.2.2.length:Nat):=h4;unfold fK;simp;omega
theorem wG{xs:List ah}(h:ow xs):mo (gN xs)=true:=by
 have hag:(gN xs).agents=xs.map gA:=rfl;have l1:=h.l1;have l2:=h.l2;unfold mo;rw[Bool.and_eq_true,hag,List.length_map];refine⟨?_,?_⟩
 ·unfold cO;rw[Bool.and_eq_true,List.length_map];refine⟨by unfold fK;simp;omega,?_⟩
  have key:∀i,i<xs.length→fu (xs.map gA) i=true:=fun i hi=>by
   unfold fu;have hw:bJ (gA (ak xs (i:Nat)))=true:=h.wf (i:Nat) (by omega) (by omega);have hr:=h.rt (i:Nat) (by omega) (by omega);rw[F8,hw];have e:(gA (ak xs (i:Nat))).kind=(ak xs (i:Nat)).1:=rfl;rw[e]
   by_cases h0:i=0
   ·subst h0;rw[hr.2 rfl];rfl
   ·have h1:((ak xs (i:Nat)).1==1)=false:=by
     rw[beq_eq_false_iff_ne];intro e;have:=hr.1 e;omega
    have h2:(((i:Nat):Int)==0)=false:=by rw[beq_eq_false_iff_ne];omega
    rw[h1,h2];rfl
  simpa[dK]using key
 ·have key:∀i,i<xs.length→lD (xs.map gA) i=true:=fun i hi=>by
   unfold lD;rw[F8,xw,List.length_map]
   have key2:∀k,k<(ak xs (i:Nat)).2.2.2.2.length→kR (xs.map gA) ⟨(i:Nat),(k:Nat)⟩ (gK ((ak xs (i:Nat)).2.2.2.2.map gP) k)=true:=fun k hk=>by
    have hp:aj xs (((i:Nat):Int),((k:Nat):Int)):=⟨by show(0:Int)≤(i:Nat);omega,by show((i:Nat):Int)<_;omega,by show(0:Int)≤(k:Nat);omega,by show((k:Nat):Int)<((ak xs (i:Nat)).2.2.2.2.length:Nat);omega⟩;obtain⟨_,h2,h3,h4⟩:=h.wi _ hp;rw[NU];have hpe:aB xs (((i:Nat):Int),((k:Nat):Int))=elt (dflt aO) (ak xs (i:Nat)).2.2.2.2 (k:Nat):=rfl;rw[←hpe];generalize aB xs (((i:Nat):Int),((k:Nat):Int))=q at*;have hge:(⟨((i:Nat):Int),((k:Nat):Int)⟩:aR)=gP (((i:Nat):Int),((k:Nat):Int)):=rfl
    rw[hge];unfold kR;simp only[Bool.and_eq_true,Bool.not_eq_true'];refine⟨⟨?_,?_⟩,?_⟩
    ·have:gP q≠gP (((i:Nat):Int),((k:Nat):Int)):=fun e=>h4 (OZ e)
     exact QJ this
    ·exact IU h2
    ·have e:kV (xs.map gA) (gP q)=gP (aB xs q):=by
      obtain⟨r1,r2,r3,r4⟩:=h2;unfold kV;have er:(gP q).agent=q.1:=rfl;have er2:(gP q).slot=q.2:=rfl;rw[er,er2,F8,xw,NU,show((q.1.toNat:Nat):Int)=q.1 by omega,show((q.2.toNat:Nat):Int)=q.2 by omega];rfl
     rw[e,h3];exact JK _
   simpa[dK]using key2
  simpa[dK]using key
structure mg(A:Int→Prop)(xs:List ah):Prop where
 l1:1≤xs.length
 wf:∀i:Nat,i<xs.length→Wf (ak xs (i:Nat))
 rt:∀i:Nat,i<xs.length→((ak xs (i:Nat)).1=1↔i=0)
 a1:∀i,A i→1≤i∧i<(xs.length:Nat)
 wi:dX (fun p=>p.2=0∧A p.1) xs
 ze:∀i:Nat,i<xs.length→¬A (i:Nat)→∀k:Int,aB xs (((i:Nat):Int),k)=(0,0)
theorem Jb{n:Nat}(k:Int):elt (dflt aO) (List.replicate n ((0:Int),(0:Int))) k=(0,0):=by
 unfold elt;rw[List.getD_eq_getElem?_getD,List.getElem?_replicate];split<;>rfl
theorem qQ{xs zs:List ah}{i:Nat}(h:i<xs.length):ak (xs++zs) (i:Nat)=ak xs (i:Nat):=by
 unfold ak elt;rw[Int.toNat_natCast,List.getD_eq_getElem?_getD,List.getD_eq_getElem?_getD,List.getElem?_append_left h]
theorem nQ(xs zs:List ah)(k:Nat):ak (xs++zs) ((xs.length+k:Nat):Int)=ak zs (k:Nat):=by
 unfold ak elt;rw[Int.toNat_natCast,Int.toNat_natCast,List.getD_eq_getElem?_getD,List.getD_eq_getElem?_getD,List.getElem?_append_right (by omega),Nat.add_sub_cancel_left]
theorem Fq.wf{k lv:Int}{a:ah}(h:Fq k lv a)(hk:dz k=true)(hl:uJ lv=true):Wf a:=h.agent hk hl
theorem Fq.ze{k lv:Int}{a:ah}(h:Fq k lv a)(s:Int):elt (dflt aO) a.2.2.2.2 s=(0,0):=by
 obtain⟨n,_,_,e,_⟩:=h.prt;rw[e];exact Jb s
theorem mg.root{lv:Int}{a:ah}(h:Fq 1 lv a)(hl:uJ lv=true):mg (fun _=>False) [a]:=by
 refine⟨by simp,fun i hi=> ?_,fun i hi=> ?_,fun i h=>h.elim,fun p h=>h.2.elim,fun i hi _ k=> ?_⟩
 all_goals
  have hi0:i=0:=by simp at hi;exact hi
  subst hi0
 ·exact h.wf (by decide) hl
 ·exact⟨fun _=>rfl,fun _=>h.kind⟩
 ·exact h.ze k
theorem mg.single{A:Int→Prop}{xs:List ah}(h:mg A xs){k lv:Int}{a:ah}(ha:Fq k lv a)(hk:dz k=true)(hk1:k≠1)(hl:uJ lv=true):mg A (xs++[a]):=by
 have hl1:=h.l1
 have at_:∀i:Nat,i<(xs++[a]).length→(i<xs.length∧ak (xs++[a]) (i:Nat)=ak xs (i:Nat))∨(i=xs.length∧ak (xs++[a]) (i:Nat)=a):=fun i hi=>by
  rw[List.length_append,List.length_singleton]at hi
  by_cases hlt:i<xs.length
  ·exact .inl ⟨hlt,qQ hlt⟩
  ·have hi:i=xs.length:=by omega
   subst hi;exact .inr ⟨rfl,nQ xs [a] 0⟩
 refine⟨by rw[List.length_append];omega,fun i hi=> ?_,fun i hi=> ?_,fun i hi=> ?_,h.wi.app _,fun i hi hA s=> ?_⟩
 ·rcases at_ i hi with⟨h1,h2⟩|⟨h1,h2⟩
  ·rw[h2];exact h.wf i h1
  ·rw[h2];exact ha.wf hk hl
 ·rcases at_ i hi with⟨h1,h2⟩|⟨h1,h2⟩
  ·rw[h2];exact h.rt i h1
  ·rw[h2,ha.kind];exact⟨fun e=>absurd e hk1,fun e=>by omega⟩
 ·have:=h.a1 i hi;rw[List.length_append];omega
 ·unfold aB;rcases at_ i hi with⟨h1,h2⟩|⟨h1,h2⟩
  ·show elt _ (ak (xs++[a]) (i:Nat)).2.2.2.2 s=_;rw[h2];exact h.ze i h1 hA s
  ·show elt _ (ak (xs++[a]) (i:Nat)).2.2.2.2 s=_;rw[h2];exact ha.ze s
theorem dw{xs:List ah}{i:Nat}(hi:i<xs.length)(h:Wf (ak xs (i:Nat))):aj xs (((i:Nat):Int),0):=by
 have:=(dZ h).2.2.2;exact⟨by show(0:Int)≤(i:Nat);omega,by show((i:Nat):Int)<_;omega,Int.le_refl 0,by show(0:Int)<((ak xs (i:Nat)).2.2.2.2.length:Nat);omega⟩
theorem mg.pair{A:Int→Prop}{xs:List ah}(h:mg A xs){n:Nat}(hn:xs.length=n+2)(ha:¬A (n:Nat))(hb:¬A ((n+1:Nat):Int))(h1:1≤n):mg (fun i=>A i∨i=(n:Nat)∨i=((n+1:Nat):Int)) (aT xs (((n:Nat):Int),0) (((n+1:Nat):Int),0)):=by
 have pa:=dw (by omega) (h.wf n (by omega));have pb:=dw (i:=n+1) (by omega) (h.wf (n+1) (by omega));have hs:dh (aT xs (((n:Nat):Int),0) (((n+1:Nat):Int),0)) xs:=(dh.refl xs).link _ _;have hsl:∀i:Nat,i<xs.length→sig (ak (aT xs (((n:Nat):Int),0) (((n+1:Nat):Int),0)) (i:Nat))=sig (ak xs (i:Nat)):=fun i hi=>hs.2 (i:Nat) (by omega) (by rw[hs.1];omega)
 refine⟨by rw[bB];exact h.l1,fun i hi=> ?_,fun i hi=> ?_,fun i hi=> ?_,?_,fun i hi hA k=> ?_⟩
 ·rw[bB]at hi;exact(yJ (hsl i hi)).2 (h.wf i hi)
 ·rw[bB]at hi;have e:(ak (aT xs (((n:Nat):Int),0) (((n+1:Nat):Int),0)) (i:Nat)).1=(ak xs (i:Nat)).1:=(Prod.mk.inj (hsl i hi)).1;rw[e];exact h.rt i hi
 ·rw[bB];rcases hi with hi|rfl|rfl
  ·exact h.a1 i hi
  ·omega
  ·omega
 ·refine(h.wi.link pa pb (fun e=>ha e.2) (fun e=>hb e.2) (fun e=>by have:=congrArg Prod.fst e;simp only at this;omega)).congr fun p=> ?_
  constructor
  ·rintro⟨e1,e2|e2|e2⟩
   ·exact .inl ⟨e1,e2⟩
   ·exact .inr (.inl (bQ e2 e1))
   ·exact .inr (.inr (bQ e2 e1))
  ·rintro(⟨e1,e2⟩|rfl|rfl)
   ·exact⟨e1,.inl e2⟩
   ·exact⟨rfl,.inr (.inl rfl)⟩
   ·exact⟨rfl,.inr (.inr rfl)⟩
 ·rw[bB]at hi;have h2:¬A (i:Nat):=fun e=>hA (.inl e)
  have h3:i≠n:=fun e=>hA (.inr (.inl (by rw[e])))
  have h4:i≠n+1:=fun e=>hA (.inr (.inr (by rw[e])))
  have e:ak (aT xs (((n:Nat):Int),0) (((n+1:Nat):Int),0)) (i:Nat)=ak xs (i:Nat):=by
   unfold aT;rw[cK,if_neg (by intro e;have:=e.1;simp only[Int.toNat_natCast]at this;omega),cK,if_neg (by intro e;have:=e.1;simp only[Int.toNat_natCast]at this;omega)]
  show elt _ (ak _ (i:Nat)).2.2.2.2 k=_;rw[e];exact h.ze i hi h2 k
theorem mg.tied{A:Int→Prop}{xs:List ah}(h:mg A xs){i:Nat}(hi:i<xs.length)(h1:1≤i):
  (A (i:Nat)→0<(aB xs (((i:Nat):Int),0)).1∧aj xs (aB xs (((i:Nat):Int),0))∧aB xs (aB xs (((i:Nat):Int),0))=(((i:Nat):Int),0))∧(¬A (i:Nat)→aB xs (((i:Nat):Int),0)=(0,0)):=by
 refine⟨fun hA=> ?_,fun hA=>h.ze i hi hA 0⟩;obtain⟨k1,k2,k3,_⟩:=h.wi (((i:Nat):Int),0) ⟨rfl,hA⟩;exact⟨by have:=h.a1 _ k2.2;omega,(h.wi _ k2).1,k3⟩
structure DW(S:List aC)(xs:List ah):Prop where
 l1:1≤xs.length
 wf:∀i:Nat,i<xs.length→Wf (ak xs (i:Nat))
 rt:∀i:Nat,i<xs.length→((ak xs (i:Nat)).1=1↔i=0)
 wi:dX (fun p=>aj xs p∧p∉S) xs
 nd:S.Nodup
 si:∀p∈S,aj xs p
theorem mg.free{A:Int→Prop}{xs:List ah}(h:mg A xs){S:List aC}(nd:S.Nodup)(hS:∀p,p∈S↔aj xs p∧¬(p.2=0∧A p.1)):DW S xs:=by
 refine⟨h.l1,h.wf,h.rt,h.wi.congr fun p=> ?_,nd,fun p hp=>((hS p).1 hp).1⟩;constructor
 ·rintro⟨h1,h2⟩;exact Classical.byContradiction fun e=>h2 ((hS p).2 ⟨h1,e⟩)
 ·intro h1;exact⟨(h.wi p h1).1,fun e=>((hS p).1 e).2 h1⟩
theorem DW.add{S:List aC}{xs:List ah}(h:DW S xs){k lv:Int}{a:ah}(ha:Fq k lv a)(hk:dz k=true)(hk1:k≠1)(hl:uJ lv=true)(h5:a.2.2.2.2.length=1):DW (S++[(((xs.length:Nat):Int),0)]) (xs++[a]):=by
 have hl1:=h.l1;have hnot:∀p,aj xs p→p.1≠(xs.length:Nat):=fun p hp e=>by have:=hp.2.1;omega
 have hin:∀p,aj (xs++[a]) p→aj xs p∨p=(((xs.length:Nat):Int),0):=fun p hp=>by
  obtain⟨q1,q2,q3,q4⟩:=hp;rw[List.length_append,List.length_singleton]at q2;have ep:((p.1.toNat:Nat):Int)=p.1:=by omega
  by_cases hlt:p.1<(xs.length:Nat)
  ·have e:=qQ (xs:=xs) (zs:=[a]) (i:=p.1.toNat) (by omega);rw[ep]at e;rw[e]at q4;exact .inl ⟨q1,hlt,q3,q4⟩
  ·have e1:p.1=(xs.length:Nat):=by omega
   have e:=nQ xs [a] 0;rw[Nat.add_zero,←e1]at e;rw[e]at q4;have q4:p.2<(a.2.2.2.2.length:Nat):=q4;exact .inr (bQ e1 (by show p.2=0;omega))
 have hnew:aj (xs++[a]) (((xs.length:Nat):Int),0):=by
  have e:=nQ xs [a] 0;rw[Nat.add_zero]at e;refine⟨by show(0:Int)≤(xs.length:Nat);omega,by show((xs.length:Nat):Int)<_;rw[List.length_append,List.length_singleton];omega,Int.le_refl 0,?_⟩;show(0:Int)<((ak (xs++[a]) (xs.length:Nat)).2.2.2.2.length:Nat);rw[e];show(0:Int)<(a.2.2.2.2.length:Nat);omega
 have at_:∀i:Nat,i<(xs++[a]).length→(i<xs.length∧ak (xs++[a]) (i:Nat)=ak xs (i:Nat))∨(i=xs.length∧ak (xs++[a]) (i:Nat)=a):=fun i hi=>by
  rw[List.length_append,List.length_singleton]at hi
  by_cases hlt:i<xs.length
  ·exact .inl ⟨hlt,qQ hlt⟩
  ·have hi:i=xs.length:=by omega
   subst hi;exact .inr ⟨rfl,nQ xs [a] 0⟩
 refine⟨by rw[List.length_append];omega,fun i hi=> ?_,fun i hi=> ?_,(h.wi.app [a]).congr fun p=> ?_,?_,fun p hp=> ?_⟩
 ·rcases at_ i hi with⟨h1,h2⟩|⟨h1,h2⟩
  ·rw[h2];exact h.wf i h1
  ·rw[h2];exact ha.wf hk hl
 ·rcases at_ i hi with⟨h1,h2⟩|⟨h1,h2⟩
  ·rw[h2];exact h.rt i h1
  ·rw[h2,ha.kind];exact⟨fun e=>absurd e hk1,fun e=>by omega⟩
 ·constructor
  ·rintro⟨h1,h2⟩;rcases hin p h1 with h1|rfl
   ·exact⟨h1,fun e=>h2 (List.mem_append_left _ e)⟩
   ·exact absurd (List.mem_append_right _ (List.mem_singleton.2 rfl)) h2
  ·rintro⟨h1,h2⟩;refine⟨h1.app,fun e=> ?_⟩;rcases List.mem_append.1 e with e|e
   ·exact h2 e
   ·rw[List.mem_singleton]at e;exact hnot p h1 (by rw[e])
 ·refine List.nodup_append.2 ⟨h.nd,by simp,fun p hp q hq e=> ?_⟩;rw[List.mem_singleton]at hq;subst e;exact hnot p (h.si p hp) (by rw[hq])
 ·rcases List.mem_append.1 hp with hp|hp
  ·exact(h.si p hp).app
  ·rw[List.mem_singleton]at hp;subst hp;exact hnew
theorem DW.match_{S:List aC}{xs:List ah}{p:aC}(h:DW (S++[p]) xs){k:Nat}(hk:k<S.length):DW (S.take k++S.drop (k+1)) (aT xs p (S.getD k (0,0))):=by
 have hq:S.getD k (0,0)∈S:=by rw[List.getD_eq_getElem?_getD,List.getElem?_eq_getElem hk];exact List.getElem_mem hk
 generalize hqe:S.getD k (0,0)=q at*
 have hS:S=S.take k++q::S.drop (k+1):=by
  rw[←hqe,List.getD_eq_getElem?_getD,List.getElem?_eq_getElem hk];show S=S.take k++S[k]::S.drop (k+1);rw[List.getElem_cons_drop,List.take_append_drop]
 obtain⟨n1,n2,n3⟩:=List.nodup_append.1 h.nd;have hpq:p≠q:=fun e=>n3 q hq p (by simp) e.symm
 have n1':=n1;rw[hS]at n1';obtain⟨m1,m2,m3⟩:=List.nodup_append.1 n1';obtain⟨m4,m5⟩:=List.nodup_cons.1 m2
 have hmem:∀r,r∈S.take k++S.drop (k+1)↔r∈S∧r≠q:=fun r=>by
  have e:r∈S↔r∈S.take k∨r=q∨r∈S.drop (k+1):=by
   conv=>lhs;rw[hS]
   rw[List.mem_append,List.mem_cons]
  rw[e,List.mem_append];constructor
  ·rintro(h1|h1)
   ·exact⟨.inl h1,fun e=>m3 r h1 q (by simp) e⟩
   ·exact⟨.inr (.inr h1),fun e=>m4 (e▸h1)⟩
  ·rintro⟨h1|h1|h1,h2⟩
   ·exact .inl h1
   ·exact absurd h1 h2
   ·exact .inr h1
 have pp:aj xs p:=h.si p (by simp);have pq:aj xs q:=h.si q (List.mem_append_left _ hq);have hs:dh (aT xs p q) xs:=(dh.refl xs).link _ _;have hsl:∀i:Nat,i<xs.length→sig (ak (aT xs p q) (i:Nat))=sig (ak xs (i:Nat)):=fun i hi=>hs.2 (i:Nat) (by omega) (by rw[hs.1];omega)
 refine⟨by rw[bB];exact h.l1,fun i hi=> ?_,fun i hi=> ?_,?_,?_,fun r hr=> ?_⟩
 ·rw[bB]at hi;exact(yJ (hsl i hi)).2 (h.wf i hi)
 ·rw[bB]at hi;have e:(ak (aT xs p q) (i:Nat)).1=(ak xs (i:Nat)).1:=(Prod.mk.inj (hsl i hi)).1;rw[e];exact h.rt i hi
 ·refine(h.wi.link pp pq (fun e=>e.2 (by simp)) (fun e=>e.2 (List.mem_append_left _ hq)) hpq).congr fun r=> ?_
  have hin:aj (aT xs p q) r↔aj xs r:=by
   unfold aj;rw[bB];have:(ak (aT xs p q) r.1).aQ.length=(ak xs r.1).aQ.length:=EU xs p q r.1;rw[this]
  rw[hin,hmem];constructor
  ·rintro⟨h1,h2⟩
   by_cases e1:r=p
   ·exact .inr (.inl e1)
   ·by_cases e2:r=q
    ·exact .inr (.inr e2)
    ·refine .inl ⟨h1,fun e=> ?_⟩;rcases List.mem_append.1 e with e|e
     ·exact h2 ⟨e,e2⟩
     ·rw[List.mem_singleton]at e;exact e1 e
  ·rintro(⟨h1,h2⟩|rfl|rfl)
   ·exact⟨h1,fun e=>h2 (List.mem_append_left _ e.1)⟩
   ·exact⟨pp,fun e=>n3 r e.1 r (by simp) rfl⟩
   ·exact⟨pq,fun e=>e.2 rfl⟩
 ·exact List.nodup_append.2 ⟨m1,m5,fun a ha b hb e=>m3 a ha b (by simp[hb]) e⟩
 ·have:=((hmem r).1 hr).1;exact(h.si r (List.mem_append_left _ this)).link
theorem DW.done{xs:List ah}(h:DW [] xs)(hl:xs.length≤600):ow xs:=by
 refine⟨h.l1,hl,fun i h0 h1=> ?_,fun i h0 h1=> ?_,h.wi.congr fun p=>by simp⟩
 ·have:=h.wf i.toNat (by omega)
  rwa[show((i.toNat:Nat):Int)=i by omega]at this
 ·have:=h.rt i.toNat (by omega);rw[show((i.toNat:Nat):Int)=i by omega]at this;rw[this];omega
end Go.Tr
