
/- Drawn nets: chains of states, the ports that are left. -/
import Derived.Test.YtnamelcmcikeoaaShort
import Derived.Test.YtnamelcmcikeoaaBe
import Derived.Test.YtnamelcmcikeoaaVV
set_option linter.unusedSimpArgs false
set_option linter.unusedVariables false
namespace Go.Tr
open Go Go.RowKit
theorem yX{a b:Nat}(h:decide (((a:Nat):Int)<((b:Nat):Int))=true):a<b:=by have:=of_decide_eq_true h;omega
theorem Cu{a b:Nat}(h:decide (((a:Nat):Int)<((b:Nat):Int))=false):b≤a:=by have:=of_decide_eq_false h;omega
theorem QK{σ:Type}(g0:Nat)(T:σ→List Tok):∀(s:σ) (K:List Tok→Prop) (cx:Cx) (β:Nat→Value) (w:World) (R:List bU),dQ g0 (T s) K→Inv cx.w0 cx.F0 w ((T s).map (Tok.res cx β)++R)→∃rs',K rs'∧Inv cx.w0 cx.F0 w (rs'.map (Tok.res cx β)++R):=fun s K cx β w R h hI=>by
 obtain⟨l',h1,_,h3⟩:=gW h hI;exact⟨l',h1,h3⟩
theorem chain{σ:Type}{I:Nat→σ→Prop}{R:Nat→σ→σ→Prop}(N:Nat)(s0:σ)(h0:I 0 s0)(h:∀i s,i<N→I i s→∃s',R i s s'∧I (i+1) s'):∃f:Nat→σ,f 0=s0∧(∀i,i<N→R i (f i) (f (i+1)))∧∀i,i≤N→I i (f i):=by
 classical
 have step:∀i s,∃s',i<N→I i s→R i s s'∧I (i+1) s':=fun i s=>by
  by_cases hi:i<N∧I i s
  ·obtain⟨s',h1⟩:=h i s hi.1 hi.2;exact⟨s',fun _ _=>h1⟩
  ·exact⟨s,fun a b=>absurd ⟨a,b⟩ hi⟩
 obtain⟨g,hg⟩:∃g:Nat→σ→σ,∀i s,i<N→I i s→R i s (g i s)∧I (i+1) (g i s):=⟨fun i s=>Classical.choose (step i s),fun i s=>Classical.choose_spec (step i s)⟩
 let f:Nat→σ:=fun n=>Nat.rec s0 (fun i s=>g i s) n
 have hf:∀i,f (i+1)=g i (f i):=fun i=>rfl
 have inv:∀i,i≤N→I i (f i):=by
  intro i
  induction i with
  |zero=>intro _;exact h0
  |succ i ih=>intro hi;rw[hf];exact(hg i (f i) (by omega) (ih (by omega))).2
 exact⟨f,rfl,fun i hi=>by rw[hf];exact(hg i (f i) hi (inv i (by omega))).1,inv⟩
theorem Cr(t:Nat→Bool){N:Nat}(h:t N=false):∃m,m≤N∧t m=false∧∀i,i<m→t i=true:=by
 induction N generalizing t with
 |zero=>exact⟨0,Nat.le_refl _,h,fun i hi=>absurd hi (by omega)⟩
 |succ N ih=>
  cases h0:t 0 with
  |false=>exact⟨0,by omega,h0,fun i hi=>absurd hi (by omega)⟩
  |true=>
   obtain⟨m,h1,h2,h3⟩:=ih (fun i=>t (i+1)) h
   exact⟨m+1,by omega,h2,fun i hi=>by
    cases i with
    |zero=>exact h0
    |succ i=>exact h3 i (by omega)⟩
def fJ(pb:Nat→Bool)(i:Nat):Nat→List aC→List aC
 |0,S=>S
 |k+1,S=>fJ pb i k S++(bif (((k:Nat):Int)==0)&&pb i then[]else[(((i:Nat):Int),((k:Nat):Int))])
def eB(pb:Nat→Bool)(xs:List ah):Nat→List aC
 |0=>[]
 |i+1=>fJ pb i (ak xs (i:Nat)).2.2.2.2.length (eB pb xs i)
theorem Ap(pb:Nat→Bool)(i:Nat)(S:List aC)(p:aC):∀k,p∈fJ pb i k S↔p∈S∨(p.1=(i:Nat)∧0≤p.2∧p.2<(k:Nat)∧¬(p.2=0∧pb i=true))
 |0=>by
  rw[fJ];exact⟨.inl,fun h=>h.elim id fun h=>by omega⟩
 |k+1=>by
  rw[fJ,List.mem_append,Ap pb i S p k];cases hb:(((k:Nat):Int)==0)&&pb i with
  |true=>
   rw[Bool.and_eq_true,beq_iff_eq]at hb;simp only[cond_true,List.not_mem_nil,or_false];constructor
   ·rintro(h|⟨h1,h2,h3,h4⟩)
    ·exact .inl h
    ·exact .inr ⟨h1,h2,by omega,h4⟩
   ·rintro(h|⟨h1,h2,h3,h4⟩)
    ·exact .inl h
    ·exact absurd ⟨by omega,hb.2⟩ h4
  |false=>
   simp only[cond_false,List.mem_singleton];constructor
   ·rintro((h|⟨h1,h2,h3,h4⟩)|rfl)
    ·exact .inl h
    ·exact .inr ⟨h1,h2,by omega,h4⟩
    ·refine .inr ⟨rfl,by show(0:Int)≤(k:Nat);omega,by show((k:Nat):Int)<((k+1:Nat):Int);omega,fun e=> ?_⟩;have e1:((k:Nat):Int)=0:=e.1;rw[show(((k:Nat):Int)==0)=true by rw[e1];rfl,e.2]at hb;cases hb
   ·rintro(h|⟨h1,h2,h3,h4⟩)
    ·exact .inl (.inl h)
    ·by_cases e:p.2=(k:Nat)
     ·exact .inr (bQ h1 e)
     ·exact .inl (.inr ⟨h1,h2,by omega,h4⟩)
theorem wE(pb:Nat→Bool)(xs:List ah)(p:aC):∀i,p∈eB pb xs i↔0≤p.1∧p.1<(i:Nat)∧0≤p.2∧p.2<((ak xs p.1).2.2.2.2.length:Nat)∧¬(p.2=0∧pb p.1.toNat=true)
 |0=>by
  rw[eB];exact⟨fun h=>(by cases h),fun h=>by omega⟩
 |i+1=>by
  rw[eB,Ap,wE pb xs p i];constructor
  ·rintro(⟨h1,h2,h3⟩|⟨h1,h2,h3,h4⟩)
   ·exact⟨h1,by omega,h3⟩
   ·have e:p.1.toNat=i:=by omega
    rw[h1];refine⟨by omega,by omega,h2,h3,?_⟩;rw[Int.toNat_natCast];exact h4
  ·rintro⟨h1,h2,h3,h4,h5⟩
   by_cases e:p.1=(i:Nat)
   ·rw[e]at h4 h5;rw[Int.toNat_natCast]at h5;exact .inr ⟨e,h3,h4,h5⟩
   ·exact .inl ⟨h1,by omega,h3,h4,h5⟩
theorem zy(pb:Nat→Bool)(i:Nat)(S:List aC)(h:S.Nodup)(hS:∀p∈S,p.1<(i:Nat)):∀k,(fJ pb i k S).Nodup
 |0=>h
 |k+1=>by
  rw[fJ];refine List.nodup_append.2 ⟨zy pb i S h hS k,by cases (((k:Nat):Int)==0)&&pb i<;>simp,fun p hp q hq e=> ?_⟩;cases hb:(((k:Nat):Int)==0)&&pb i with
  |true=>rw[hb]at hq;cases hq
  |false=>
   rw[hb]at hq;simp only[cond_false,List.mem_singleton]at hq;subst hq;subst e;rcases(Ap pb i S _ k).1 hp with h1|⟨_,_,h3,_⟩
   ·have:=hS _ h1;have:((i:Nat):Int)<(i:Nat):=this;omega
   ·have:((k:Nat):Int)<(k:Nat):=h3;omega
theorem uy(pb:Nat→Bool)(xs:List ah):∀i,(eB pb xs i).Nodup
 |0=>List.nodup_nil
 |i+1=>zy pb i _ (uy pb xs i) (fun p hp=>((wE pb xs p i).1 hp).2.1) _
theorem mF(pb:Nat→Bool)(i:Nat)(S:List aC):∀k,(fJ pb i k S).length≤S.length+k
 |0=>Nat.le_refl _
 |k+1=>by
  have:=mF pb i S k;rw[fJ,List.length_append];cases (((k:Nat):Int)==0)&&pb i<;>simp<;>omega
theorem iW{pb:Nat→Bool}{xs:List ah}(h:∀i:Nat,i<xs.length→(ak xs (i:Nat)).2.2.2.2.length≤4):∀i,i≤xs.length→(eB pb xs i).length≤4*i
 |0,_=>Nat.le_refl _
 |i+1,hi=>by
  have h1:=iW (pb:=pb) h i (by omega);have h2:=mF pb i (eB pb xs i) (ak xs (i:Nat)).2.2.2.2.length;have h3:=h i (by omega);rw[eB];omega
theorem mg.frees{A:Int→Prop}{xs:List ah}(h:mg A xs){pb:Nat→Bool}(hp:∀i:Nat,pb i=true↔A (i:Nat)):DW (eB pb xs xs.length) xs:=by
 refine h.free (uy pb xs _) fun p=> ?_
 rw[wE];unfold aj;constructor
 ·rintro⟨h1,h2,h3,h4,h5⟩;refine⟨⟨h1,h2,h3,h4⟩,fun e=>h5 ⟨e.1,(hp _).2 ?_⟩⟩;rw[show((p.1.toNat:Nat):Int)=p.1 by omega];exact e.2
 ·rintro⟨⟨h1,h2,h3,h4⟩,h5⟩;refine⟨h1,h2,h3,h4,fun e=>h5 ⟨e.1,?_⟩⟩;have:=(hp _).1 e.2
  rwa[show((p.1.toNat:Nat):Int)=p.1 by omega]at this
theorem vJ{k i b:Nat}{pb:Nat→Bool}(h0:pb 0=false)(hin:∀i,1≤i→i<b→pb i=true)(B:Bool)(hB:((bif ((k:Nat):Int)==0 then decide (0<((i:Nat):Int))else false)&& !decide (((i:Nat):Int)<((b:Nat):Int)))=true→B=pb i):
  (bif (bif ((k:Nat):Int)==0 then decide (0<((i:Nat):Int))else false)then(bif decide (((i:Nat):Int)<((b:Nat):Int))then true else B)else false)=((((k:Nat):Int)==0)&&pb i):=by
 cases hk:((k:Nat):Int)==0 with
 |false=>rfl
 |true=>
  rw[hk]at hB;simp only[cond_true,Bool.true_and]at hB ⊢
  by_cases hi:i=0
  ·subst hi;rw[h0];rfl
  ·rw[decide_eq_true (by omega:0<((i:Nat):Int))]at hB ⊢;simp only[cond_true,Bool.true_and]at hB ⊢
   by_cases hb:i<b
   ·rw[decide_eq_true (by omega),hin i (by omega) hb];rfl
   ·rw[decide_eq_false (by omega:¬((i:Nat):Int)<((b:Nat):Int))]at hB ⊢;exact hB rfl
theorem sW{k i b:Nat}(h:((bif ((k:Nat):Int)==0 then decide (0<((i:Nat):Int))else false)&& !decide (((i:Nat):Int)<((b:Nat):Int)))=true):((k:Nat):Int)=0∧1≤i:=by
 rw[Bool.and_eq_true]at h;cases hk:((k:Nat):Int)==0 with
 |false=>rw[hk]at h;exact absurd h.1 (by simp)
 |true=>
  rw[hk]at h;have:=of_decide_eq_true h.1;exact⟨eq_of_beq hk,by omega⟩
def N7(code:List Int)(s:List ah×List aC×DS):List ah×List aC×DS:=
 (aT s.1 (s.2.1.getD (s.2.1.length-1) (0,0)) ((s.2.1.take (s.2.1.length-1)).getD (((s.2.1.length-1:Nat):Int)-1-(pk code s.2.2 (min ((s.2.1.length-1:Nat):Int) 12)).1).toNat (0,0)),
  (s.2.1.take (s.2.1.length-1)).take (((s.2.1.length-1:Nat):Int)-1-(pk code s.2.2 (min ((s.2.1.length-1:Nat):Int) 12)).1).toNat++(s.2.1.take (s.2.1.length-1)).drop ((((s.2.1.length-1:Nat):Int)-1-(pk code s.2.2 (min ((s.2.1.length-1:Nat):Int) 12)).1).toNat+1),
  (pk code s.2.2 (min ((s.2.1.length-1:Nat):Int) 12)).2)
def au(code:List Int)(s:List ah×List aC×DS):Nat→List ah×List aC×DS
 |0=>s
 |i+1=>N7 code (au code s i)
theorem IG{code:List Int}(hb:Bytes code)(d:DS){last:Nat}(h:1≤last):0≤(last:Int)-1-(pk code d (min (last:Int) 12)).1∧(last:Int)-1-(pk code d (min (last:Int) 12)).1<last:=by
 have h1:=iy hb d (min (last:Int) 12);have h2:=dP hb d (n:=min (last:Int) 12) (by omega);omega
theorem QW{code:List Int}(hb:Bytes code){s:List ah×List aC×DS}(h:DW s.2.1 s.1)(h2:2≤s.2.1.length):DW (N7 code s).2.1 (N7 code s).1∧(N7 code s).2.1.length=s.2.1.length-2∧(N7 code s).1.length=s.1.length∧(N7 code s).2.2.k≤s.2.2.k+2:=by
 obtain⟨xs,S,d⟩:=s;have h:DW S xs:=h;have h2:2≤S.length:=h2;have hk:=IG hb d (last:=S.length-1) (by omega);have hpk:=eO code d (min ((S.length-1:Nat):Int) 12);obtain⟨k,hke⟩:∃k:Nat,(((S.length-1:Nat):Int)-1-(pk code d (min ((S.length-1:Nat):Int) 12)).1).toNat=k:=⟨_,rfl⟩;have hk1:k<S.length-1:=by omega
 have hS:S=S.take (S.length-1)++[S.getD (S.length-1) (0,0)]:=by
  have h1:S.length-1<S.length:=by omega
  rw[List.getD_eq_getElem?_getD,List.getElem?_eq_getElem h1]
  conv=>lhs;rw[←List.take_append_drop (S.length-1) S,List.drop_eq_getElem_cons h1]
  rw[show S.length-1+1=S.length by omega,List.drop_length];rfl
 have h':=h;rw[hS]at h';have hl:k<(S.take (S.length-1)).length:=by rw[List.length_take];omega
 have hm:=h'.match_ hl;refine⟨?_,?_,?_,hpk.2⟩
 ·show DW ((S.take (S.length-1)).take (_:Int).toNat++(S.take (S.length-1)).drop ((_:Int).toNat+1)) (aT xs _ _);rw[hke];exact hm
 ·show((S.take (S.length-1)).take (_:Int).toNat++(S.take (S.length-1)).drop ((_:Int).toNat+1)).length=S.length-2;have e:(S.take (S.length-1)).length=S.length-1:=by rw[List.length_take];omega
  rw[hke,List.length_append,List.length_take,List.length_drop,e];omega
 ·exact bB _ _ _
theorem lu{code:List Int}(hb:Bytes code){s:List ah×List aC×DS}(h:DW s.2.1 s.1){m:Nat}(hm:s.2.1.length=2*m):∀i,i≤m→DW (au code s i).2.1 (au code s i).1∧(au code s i).2.1.length=2*(m-i)∧(au code s i).1.length=s.1.length∧(au code s i).2.2.k≤s.2.2.k+2*i
 |0,_=>⟨h,hm,rfl,Nat.le_refl _⟩
 |i+1,hi=>by
  obtain⟨h1,h2,h3,h4⟩:=lu hb h hm i (by omega);obtain⟨k1,k2,k3,k4⟩:=QW (code:=code) hb h1 (by omega);exact⟨k1,by rw[au,k2,h2];omega,k3.trans h3,by rw[au];omega⟩
theorem yP(U:List aC)(n:Nat):elt (dflt aO) U ((n:Nat):Int)=U.getD n (0,0):=by
 unfold elt;rw[Int.toNat_natCast];rfl
theorem Gj{code:List Int}(hb:Bytes code)(s:List ah×List aC×DS)(h2:2≤s.2.1.length)(L K W:Int)(h1:L=((s.2.1.length-1:Nat):Int))(hk:K=L-1-(pk code s.2.2 (min L 12)).1)(hw:W=K+1):
  N7 code s=(aT s.1 (elt (dflt aO) s.2.1 L) (elt (dflt aO) s.2.1 (((0:Nat):Int)+K)),([]++List.take K.toNat (List.drop 0 s.2.1))++List.take (L.toNat-W.toNat) (List.drop (0+W.toNat) s.2.1),(pk code s.2.2 (min L 12)).2):=by
 obtain⟨xs,U,d⟩:=s;have h2:2≤U.length:=h2;subst h1;have hkk:=IG hb d (last:=U.length-1) (by omega);have hk:K=((U.length-1:Nat):Int)-1-(pk code d (min ((U.length-1:Nat):Int) 12)).1:=hk;rw[←hk]at hkk;unfold N7;show(aT xs (U.getD (U.length-1) (0,0)) ((U.take (U.length-1)).getD (((U.length-1:Nat):Int)-1-(pk code d (min ((U.length-1:Nat):Int) 12)).1).toNat (0,0)),(U.take (U.length-1)).take (((U.length-1:Nat):Int)-1-(pk code d (min ((U.length-1:Nat):Int) 12)).1).toNat++(U.take (U.length-1)).drop ((((U.length-1:Nat):Int)-1-(pk code d (min ((U.length-1:Nat):Int) 12)).1).toNat+1),_)=(aT xs (elt (dflt aO) U ((U.length-1:Nat):Int)) (elt (dflt aO) U (((0:Nat):Int)+K)),([]++List.take K.toNat (List.drop 0 U))++List.take (((U.length-1:Nat):Int).toNat-W.toNat) (List.drop (0+W.toNat) U),_)
 rw[←hk];obtain⟨k,hke⟩:∃k:Nat,K=(k:Nat):=⟨K.toNat,by omega⟩;subst hke;have hW:W.toNat=k+1:=by omega
 rw[hW,Int.toNat_natCast,Int.toNat_natCast,yP,show((0:Nat):Int)+((k:Nat):Int)=((k:Nat):Int) by omega,yP,List.nil_append,List.drop_zero,Nat.zero_add,List.take_take,List.drop_take,Nat.min_eq_left (by omega)]
 have e:(U.take (U.length-1)).getD k (0,0)=U.getD k (0,0):=by
  rw[List.getD_eq_getElem?_getD,List.getD_eq_getElem?_getD,List.getElem?_take,if_pos (by omega)]
 rw[e]
theorem RX(n:Nat):((n:Nat):Int).tmod 2=((n % 2:Nat):Int):=by
 rw[Int.tmod_eq_emod_of_nonneg (by omega)];omega
end Go.Tr
namespace Go.Proofs.Ytnamelcmcikeoaa
open Go Go.RowKit Go.Proofs Go.Tr
theorem MK(a b:Int):aP Try.prog 44 [.int .i64 a,.int .i64 b] (.int .i64 (min a b)):=by
 refine aP.intro (nt:=10) aS mixed (by kernel_rfl) Try.func44 rfl rfl rfl rfl rfl ?_;refine aI (fun q=> ?_) (fun q=> ?_)
 ·have q:decide (a<b)=true:=q;have:=of_decide_eq_true q;exact⟨by show a=min a b;omega,rfl⟩
 ·have q:decide (a<b)=false:=q;have:=of_decide_eq_false q;exact⟨by show b=min a b;omega,rfl⟩
end Go.Proofs.Ytnamelcmcikeoaa
