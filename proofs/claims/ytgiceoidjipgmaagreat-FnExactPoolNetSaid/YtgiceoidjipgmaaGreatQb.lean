
/- A pool's memory: what stays true while words are connected. No program in it. -/
import Derived.Test.YtgiceoidjipgmaaGreatQa
set_option linter.unusedSimpArgs false
set_option linter.unusedVariables false
namespace Go.Tr
open Go Go.RowKit
abbrev za(v:Int):ah:=(0,0,v,[],[])
def tQ(m:bE)(a:Int):bE:=(m.1.set a.toNat (za m.2.1),a,m.2.2.1,m.2.2.2)
def qp(xs:List ah):Nat:=xs.countP fun c=>decide (0<(bA c).length)
def d9(xs:List ah)(w:ay):Bool:=(w.1==2)&&decide (0<(bA (aj xs w.2)).length)
def nZ:Nat→bE→ay→bE×ay
 |0,m,w=>(m,w)
 |k+1,m,w=>bif d9 m.1 w then nZ k (tQ m w.2) ((bA (aj m.1 w.2)).getD 0 (0,0))else(m,w)
def Oq(c:ah)(w:ay):ah:=(c.1,c.2.1,c.2.2.1,c.2.2.2.1,[w])
def Ej(m:bE)(a:Int)(w:ay):bE:=(m.1.set a.toNat (Oq (aj m.1 a) w),m.2)
def I5(m:bE)(a b:Int):bE:=(m.1,m.2.1,m.2.2.1,m.2.2.2++[(min a b,max a b)])
def Kh(a b:ay):Bool:=a.1==b.1&&a.2==b.2
def iJ(m:bE)(a b:ay):bE:=bif (a.1==1)&&(b.1==1)then I5 m a.2 b.2 else bif Kh a b then tQ m a.2 else bif a.1==2 then Ej m a.2 b else Ej m b.2 a
def fB(m:bE)(w:ay):bE×ay:=nZ (qp m.1) m w
def vV(m:bE)(a b:ay):bE:=iJ (fB (fB m a).1 b).1 (fB m a).2 (fB (fB m a).1 b).2
structure lY(xs:List ah)(m:bE):Prop where
 same:fK m.1 xs
 words:∀c∈m.1,∀x∈bA c,bH m.1 x=true
 len:∀c∈m.1,(bA c).length≤1048576
 data:∀c∈m.1,c.2.2.2.1.length≤1048576
 root:bH m.1 m.2.2.1=true
 ends:∀i:Nat,i<m.1.length→∃K,(bF m.1 K (2,(i:Int))).2=true
 lW:∀p∈m.2.2.2,(0≤p.1∧p.1<(m.1.length:Nat)∧aZ (aj m.1 p.1).1=true)∧(0≤p.2∧p.2<(m.1.length:Nat)∧aZ (aj m.1 p.2).1=true)
 keep:∀i:Nat,i<xs.length→aZ (aj xs (i:Nat)).1=true→aj m.1 (i:Nat)=aj xs (i:Nat)
theorem fK.symm{xs ys:List ah}(h:fK xs ys):fK ys xs:=⟨h.1.symm,fun i hi=>(h.2 i (by rw[h.1];exact hi)).symm⟩
theorem fK.at{xs ys:List ah}(h:fK xs ys){i:Int}(h0:0≤i)(h1:i<(xs.length:Nat)):aZ (aj xs i).1=aZ (aj ys i).1:=by
 obtain⟨m,rfl⟩:∃m:Nat,i=(m:Nat):=⟨i.toNat,by omega⟩;exact h.2 m (by omega)
theorem Gx{xs:List ah}{w:ay}(hw:bH xs w=true)(he:∀i:Nat,i<xs.length→∃K,(bF xs K (2,(i:Int))).2=true):∃K,(bF xs K w).2=true:=by
 have hin:=dD hw;have ht:=qb hw;cases h2:w.1==2 with
 |false=>
  refine⟨1,?_⟩;rw[gH,show(w.1 !=2)=true by rw[bne,h2];rfl];rfl
 |true=>
  obtain⟨m,hm⟩:∃m:Nat,w.2=(m:Nat):=⟨w.2.toNat,by omega⟩;obtain⟨K,hK⟩:=he m (by omega);refine⟨K,?_⟩;rw[show w=(2,(m:Int)) from Prod.ext (eq_of_beq h2) hm];exact hK
theorem lY.put{xs:List ah}{m:bE}(h:lY xs m){i:Nat}(hi:i<m.1.length)(hn:aZ (aj m.1 (i:Nat)).1=false){c:ah}(hc:aZ c.1=false)(hw:∀x∈bA c,bH m.1 x=true)(hl:(bA c).length≤1)(hdt:c.2.2.2.1.length≤1048576)
  (he:∀j:Nat,j<m.1.length→∃K,(bF (m.1.set i c) K (2,(j:Int))).2=true) (f:Int):lY xs (m.1.set i c,f,m.2.2.1,m.2.2.2):=by
 have hs:fK (m.1.set i c) m.1:=fK.set hi (by rw[hc,hn]);refine⟨hs.trans h.same,fun d hd x hx=> ?_,fun d hd=> ?_,fun d hd=> ?_,?_,fun j hj=> ?_,fun p hp=> ?_,fun j hj ha=> ?_⟩
 ·rw[hs.word];rcases List.mem_or_eq_of_mem_set hd with hd|rfl
  ·exact h.words d hd x hx
  ·exact hw x hx
 ·rcases List.mem_or_eq_of_mem_set hd with hd|rfl
  ·exact h.len d hd
  ·omega
 ·rcases List.mem_or_eq_of_mem_set hd with hd|rfl
  ·exact h.data d hd
  ·exact hdt
 ·rw[hs.word];exact h.root
 ·exact he j (by rw[←hs.1];exact hj)
 ·have:=h.lW p hp;have hlen:(m.1.set i c).length=m.1.length:=hs.1;refine⟨⟨this.1.1,by rw[hlen];exact this.1.2.1,?_⟩,this.2.1,by rw[hlen];exact this.2.2.1,?_⟩
  ·rw[hs.at this.1.1 (by rw[hlen];exact this.1.2.1)];exact this.1.2.2
  ·rw[hs.at this.2.1 (by rw[hlen];exact this.2.2.1)];exact this.2.2.2
 ·show aj (m.1.set i c) (j:Nat)=_;rw[kL hi]
  by_cases e:i=j
  ·subst e;have:=h.same.2 i hi;rw[hn,ha]at this;cases this
  ·rw[if_neg e];exact h.keep j hj ha
theorem lY.rel{xs:List ah}{m:bE}(h:lY xs m){a:Int}(h0:0≤a)(h1:a<(m.1.length:Nat))(hn:aZ (aj m.1 a).1=false):lY xs (tQ m a):=by
 obtain⟨i,rfl⟩:∃i:Nat,a=(i:Nat):=⟨a.toNat,by omega⟩;have hi:i<m.1.length:=by omega
 refine h.put hi hn rfl (by simp[bA]) (by simp[bA]) (by show(0:Nat)≤_;omega) (fun j hj=> ?_) _;obtain⟨K,hK⟩:=h.ends j hj;exact⟨K,FC hi rfl (Int.natCast_nonneg j) hK h.words⟩
theorem lY.tie{xs:List ah}{m:bE}(h:lY xs m){a:Int}{b:ay}(h0:0≤a)(h1:a<(m.1.length:Nat))(hn:aZ (aj m.1 a).1=false)(ha:bA (aj m.1 a)=[])(hb:bH m.1 b=true)(hg:d9 m.1 b=false)(hne:b.1=2→b.2≠a):lY xs (Ej m a b):=by
 obtain⟨i,rfl⟩:∃i:Nat,a=(i:Nat):=⟨a.toNat,by omega⟩;have hi:i<m.1.length:=by omega
 refine h.put (c:=Oq (aj m.1 (i:Nat)) b) hi hn hn (fun x hx=> ?_) (Nat.le_refl _) (h.data (aj m.1 (i:Nat)) (bR hi)) (fun j hj=> ?_) _
 ·have hx:x∈[b]:=hx;rw[List.mem_singleton]at hx;subst hx;exact hb
 ·obtain⟨K,hK⟩:=h.ends j hj;refine⟨K+1,FD hi rfl ha (dD hb).1 ?_ hne (Int.natCast_nonneg j) hK h.words⟩;unfold d9 at hg;rw[Bool.and_eq_false_iff]at hg;rcases hg with hg|hg
  ·rw[bne,hg];rfl
  ·have:=of_decide_eq_false hg;rw[show(bA (aj m.1 b.2)).length=0 by omega,Bool.or_comm];rfl
theorem kP{xs:List ah}{m:bE}(h:lY xs m){w:ay}(hw:bH m.1 w=true)(hg:d9 m.1 w=true):(0≤w.2∧w.2<(m.1.length:Nat))∧aZ (aj m.1 w.2).1=false∧0<(bA (aj m.1 w.2)).length∧bH (tQ m w.2).1 ((bA (aj m.1 w.2)).getD 0 (0,0))=true:=by
 have hin:=dD hw;unfold d9 at hg;rw[Bool.and_eq_true]at hg;have hl:=of_decide_eq_true hg.2;have hn:aZ (aj m.1 w.2).1=false:=by have:=(mW hw).2;rw[hg.1]at this;simpa using this.symm
 refine⟨hin,hn,hl,?_⟩;obtain⟨i,hi⟩:∃i:Nat,w.2=(i:Nat):=⟨w.2.toNat,by omega⟩;have hil:i<m.1.length:=by omega
 have hs:fK (tQ m w.2).1 m.1:=by
  show fK (m.1.set w.2.toNat (za m.2.1)) m.1;rw[hi,Int.toNat_natCast];exact fK.set hil (by rw[←hi,hn];rfl)
 rw[hs.word];refine h.words (aj m.1 w.2) (by rw[hi];exact bR hil) _ ?_;rw[List.getD_eq_getElem?_getD,List.getElem?_eq_getElem hl];exact List.getElem_mem hl
theorem EC{xs:List ah}{i:Nat}(hi:i<xs.length)(hl:0<(bA (aj xs (i:Nat))).length)(c:ah)(hc:bA c=[]):qp (xs.set i c)+1=qp xs:=by
 unfold qp;have e:xs[i]=aj xs (i:Nat):=by rw[dQ,List.getD_eq_getElem?_getD,List.getElem?_eq_getElem hi];rfl
 rw[List.countP_set hi,e,decide_eq_true hl,hc];have:0<xs.countP fun c=>decide (0<(bA c).length):=List.countP_pos_iff.2 ⟨aj xs (i:Nat),bR hi,by simpa using hl⟩
 simp;omega
theorem Dx{xs:List ah}:∀{k:Nat} {m:bE} {w:ay},qp m.1=k→lY xs m→bH m.1 w=true→lY xs (nZ k m w).1∧bH xs (nZ k m w).2=true∧d9 (nZ k m w).1.1 (nZ k m w).2=false
 |0,m,w,hk,h,hw=>by
  refine⟨h,by rw[←h.same.word];exact hw,?_⟩;cases hg:d9 m.1 w with
  |false=>exact hg
  |true=>
   obtain⟨hin,_,hl,_⟩:=kP h hw hg;obtain⟨i,hi⟩:∃i:Nat,w.2=(i:Nat):=⟨w.2.toNat,by omega⟩;have hil:i<m.1.length:=by omega
   have:0<qp m.1:=List.countP_pos_iff.2 ⟨aj m.1 (i:Nat),bR hil,by rw[←hi];simpa using hl⟩;omega
 |k+1,m,w,hk,h,hw=>by
  rw[nZ];cases hg:d9 m.1 w with
  |false=>exact⟨h,by rw[←h.same.word];exact hw,hg⟩
  |true=>
   obtain⟨hin,hn,hl,hx⟩:=kP h hw hg;obtain⟨i,hi⟩:∃i:Nat,w.2=(i:Nat):=⟨w.2.toNat,by omega⟩;have hil:i<m.1.length:=by omega
   refine Dx (k:=k) ?_ (h.rel hin.1 hin.2 hn) hx;have:=EC hil (by rw[←hi];exact hl) (za m.2.1) rfl;show qp (m.1.set w.2.toNat (za m.2.1))=k;rw[hi,Int.toNat_natCast];omega
theorem pJ{xs:List ah}{m:bE}{w:ay}(h:lY xs m)(hw:bH xs w=true):lY xs (fB m w).1∧bH xs (fB m w).2=true∧d9 (fB m w).1.1 (fB m w).2=false:=
 Dx rfl h (by rw[h.same.word];exact hw)
theorem F6{m:bE}{a:ay}{i:Nat}{c:ah}(hc:bA c=[])(h:d9 m.1 a=false)(ha:0≤a.2)(hi:i<m.1.length):d9 (m.1.set i c) a=false:=by
 unfold d9 at h ⊢;rw[Bool.and_eq_false_iff]at h ⊢;refine h.imp id fun h=> ?_
 obtain⟨j,hj⟩:∃j:Nat,a.2=(j:Nat):=⟨a.2.toNat,by omega⟩;rw[hj]at h ⊢;rw[kL hi]
 by_cases e:i=j
 ·rw[if_pos e,hc];rfl
 ·rw[if_neg e];exact h
theorem BZ{xs:List ah}{a:ay}(ha:0≤a.2):∀{k:Nat} {m:bE} {w:ay},lY xs m→bH m.1 w=true→d9 m.1 a=false→d9 (nZ k m w).1.1 a=false
 |0,m,w,_,_,h=>h
 |k+1,m,w,hm,hw,h=>by
  rw[nZ];cases hg:d9 m.1 w with
  |false=>exact h
  |true=>
   obtain⟨hin,hn,hl,hx⟩:=kP hm hw hg;exact BZ ha (hm.rel hin.1 hin.2 hn) hx (F6 rfl h ha (by omega))
theorem Cg{xs:List ah}{a:ay}(h:d9 xs a=false)(ht:a.1=2):bA (aj xs a.2)=[]:=by
 unfold d9 at h;rw[ht,Bool.and_eq_false_iff]at h;rcases h with h|h
 ·cases h
 ·have:=of_decide_eq_false h;exact List.eq_nil_of_length_eq_zero (by omega)
theorem Kv{xs:List ah}{m:bE}{a b:ay}(h:lY xs m)(ha:bH xs a=true)(hb:bH xs b=true)(ga:d9 m.1 a=false)(gb:d9 m.1 b=false):lY xs (iJ m a b):=by
 rw[←h.same.word]at ha hb;have ia:=dD ha;have ib:=dD hb;obtain⟨a1,a2⟩:=mW ha;obtain⟨b1,b2⟩:=mW hb;unfold iJ;cases hab:(a.1==1)&&(b.1==1)with
 |true=>
  rw[Bool.and_eq_true]at hab;rw[hab.1]at a1;rw[hab.2]at b1;refine⟨h.same,h.words,h.len,h.data,h.root,h.ends,fun p hp=> ?_,h.keep⟩;rcases List.mem_append.1 (show p∈m.2.2.2++[(min a.2 b.2,max a.2 b.2)] from hp)with hp|hp
  ·exact h.lW p hp
  ·rw[List.mem_singleton]at hp;subst hp;have A:0≤a.2∧a.2<(m.1.length:Nat)∧aZ (aj m.1 a.2).1=true:=⟨ia.1,ia.2,a1.symm⟩;have B:0≤b.2∧b.2<(m.1.length:Nat)∧aZ (aj m.1 b.2).1=true:=⟨ib.1,ib.2,b1.symm⟩;rcases Int.le_total a.2 b.2 with hle|hle
   ·rw[Int.min_eq_left hle,Int.max_eq_right hle];exact⟨A,B⟩
   ·rw[Int.min_eq_right hle,Int.max_eq_left hle];exact⟨B,A⟩
 |false=>
  cases he:Kh a b with
  |true=>
   unfold Kh at he;rw[Bool.and_eq_true,beq_iff_eq,beq_iff_eq]at he
   have:aZ (aj m.1 a.2).1=false:=by
    rw[←a1];rw[←he.1,Bool.and_self]at hab;exact hab
   exact h.rel ia.1 ia.2 this
  |false=>
   cases ht:a.1==2 with
   |true=>
    rw[ht]at a2;refine h.tie ia.1 ia.2 (by simpa using a2.symm) (Cg ga (eq_of_beq ht)) hb gb fun h1 h2=> ?_
    unfold Kh at he;rw[h1,h2,eq_of_beq ht]at he;simp at he
   |false=>
    have h1:=qb ha;rw[ht]at h1;have h1:(a.1==1)=true:=h1;rw[h1,Bool.true_and]at hab;have h2:=qb hb;rw[hab]at h2;have h2:(b.1==2)=true:=by simpa using h2.symm
    rw[h2]at b2;refine h.tie ib.1 ib.2 (by simpa using b2.symm) (Cg gb (eq_of_beq h2)) ha ga fun h3 h4=> ?_
    rw[h3]at ht;cases ht
theorem LW{xs:List ah}{m:bE}{a b:ay}(h:lY xs m)(ha:bH xs a=true)(hb:bH xs b=true):lY xs (vV m a b):=by
 obtain⟨h1,h2,h3⟩:=pJ h ha;obtain⟨k1,k2,k3⟩:=pJ h1 hb;exact Kv k1 h2 k2 (BZ (dD h2).1 h1 (by rw[h1.same.word];exact hb) h3) k3
def uQ(m:bE)(ls:List (ay×ay)):bE:=ls.foldl (fun m l=>vV m l.1 l.2) m
theorem zT{xs:List ah}:∀{ls:List (ay×ay)} {m:bE},lY xs m→(∀l∈ls,bH xs l.1=true∧bH xs l.2=true)→lY xs (uQ m ls)
 |[],m,h,_=>h
 |l::ls,m,h,hl=>zT (ls:=ls) (LW h (hl l (by simp)).1 (hl l (by simp)).2) fun x hx=>hl x (by simp[hx])
theorem FU(m:bE){ls:List (ay×ay)}{k:Nat}(h:k<ls.length):uQ m (ls.take (k+1))=vV (uQ m (ls.take k)) (ls.getD k ((0,0),(0,0))).1 (ls.getD k ((0,0),(0,0))).2:=by
 unfold uQ;rw[List.take_add_one,List.foldl_append,List.getD_eq_getElem?_getD,List.getElem?_eq_getElem h];rfl
theorem y8:∀(k:Nat) (m:bE) (w:ay),(nZ k m w).1.2.2=m.2.2
 |0,m,w=>rfl
 |k+1,m,w=>by
  rw[nZ];cases d9 m.1 w with
  |false=>rfl
  |true=>exact y8 k (tQ m w.2) _
theorem kM(m:bE)(w:ay):(fB m w).1.2.2.2=m.2.2.2:=by
 have:(fB m w).1.2.2=m.2.2:=y8 _ m w;rw[this]
theorem Ga(m:bE)(a b:ay):(iJ m a b).2.2.2.length≤m.2.2.2.length+1:=by
 unfold iJ;cases (a.1==1)&&(b.1==1)with
 |true=>show(m.2.2.2++[_]).length≤_;simp
 |false=>
  cases Kh a b with
  |true=>exact Nat.le_succ _
  |false=>cases a.1==2<;>exact Nat.le_succ _
theorem G7(m:bE)(a b:ay):(vV m a b).2.2.2.length≤m.2.2.2.length+1:=by
 have:=Ga (fB (fB m a).1 b).1 (fB m a).2 (fB (fB m a).1 b).2;rw[kM,kM]at this;exact this
theorem sO:∀(ls:List (ay×ay)) (m:bE),(uQ m ls).2.2.2.length≤m.2.2.2.length+ls.length
 |[],m=>Nat.le_refl _
 |l::ls,m=>by
  have h1:=sO ls (vV m l.1 l.2);have h2:=G7 m l.1 l.2;show(uQ (vV m l.1 l.2) ls).2.2.2.length≤_;rw[List.length_cons];omega
end Go.Tr
