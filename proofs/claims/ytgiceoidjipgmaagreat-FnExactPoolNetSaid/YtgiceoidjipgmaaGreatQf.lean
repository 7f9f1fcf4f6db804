
/- A pool's memory: its net. No program in it. -/
import Derived.Test.YtgiceoidjipgmaaGreatShort
import Derived.Test.YtgiceoidjipgmaaGreatQb
set_option linter.unusedSimpArgs false
set_option linter.unusedVariables false
namespace Go.Tr
open Go Go.RowKit
def bI(xs:List ah):Nat→List ah
 |0=>[lV 1 0 0 [] 1]
 |i+1=>bif aZ (aj xs (i:Nat)).1 then bI xs i++[lV (aj xs (i:Nat)).1 (aj xs (i:Nat)).2.1 (aj xs (i:Nat)).2.2.1 (aj xs (i:Nat)).2.2.2.1 ((bA (aj xs (i:Nat))).length+1)]else bI xs i
def vo(xs:List ah)(i:Int):Int:=((bI xs i.toNat).length:Nat)
abbrev yg:=List ah×List (Int×bX)
def rX(xs:List ah)(s:yg)(p:bX)(w:ay):yg:=
 bif (bF xs (xs.length+1) w).1.1==1 then(gG s.1 p (vo xs (bF xs (xs.length+1) w).1.2,0),s.2)
 else bif gF s.2 (bF xs (xs.length+1) w).1.2 then(gG s.1 p (dI (0,0) s.2 (bF xs (xs.length+1) w).1.2),s.2)
 else(s.1,gW s.2 (bF xs (xs.length+1) w).1.2 p)
def eH(xs:List ah)(i:Nat)(s:yg):Nat→yg
 |0=>s
 |k+1=>rX xs (eH xs i s k) (vo xs (i:Nat),((k+1:Nat):Int)) ((bA (aj xs (i:Nat))).getD k (0,0))
def bQ(xs:List ah)(s:yg):Nat→yg
 |0=>s
 |i+1=>bif aZ (aj xs (i:Nat)).1 then eH xs i (bQ xs s i) (bA (aj xs (i:Nat))).length else bQ xs s i
def mO(xs:List ah)(rs:List ay)(A:List ah):Nat→List ah
 |0=>A
 |k+1=>gG (mO xs rs A k) (vo xs (rs.getD k (0,0)).1,0) (vo xs (rs.getD k (0,0)).2,0)
def eP(m:bE):yg:=rX m.1 (bI m.1 m.1.length,[]) (0,0) m.2.2.1
def jG(m:bE):List ah:=mO m.1 m.2.2.2 (bQ m.1 (eP m) m.1.length).1 m.2.2.2.length
theorem uZ(xs:List ah):∀{i j:Nat},i≤j→bI xs i<+:bI xs j
 |i,0,h=>by rw[Nat.le_zero.1 h];exact pR _
 |i,j+1,h=>by
  rcases Nat.lt_or_ge i (j+1)with h1|h1
  ·refine(uZ xs (Nat.le_of_lt_succ h1)).trans ?_;rw[bI];cases aZ (aj xs (j:Nat)).1 with
   |true=>exact List.prefix_append _ _
   |false=>exact pR _
  ·rw[show i=j+1 by omega];exact pR _
theorem zL(xs:List ah):∀i,(bI xs i).length≤i+1
 |0=>Nat.le_refl _
 |i+1=>by
  have:=zL xs i;rw[bI];cases aZ (aj xs (i:Nat)).1 with
  |true=>show(bI xs i++[_]).length≤_;rw[List.length_append,List.length_singleton];omega
  |false=>show(bI xs i).length≤_;omega
theorem JI(xs:List ah)(i:Nat):0<(bI xs i).length:=by
 obtain⟨t,ht⟩:=uZ xs (Nat.zero_le i);rw[←ht];simp[bI]
theorem IV{A B:List ah}(h:A<+:B){i:Nat}(hi:i<A.length):aj B (i:Nat)=aj A (i:Nat):=by
 obtain⟨t,rfl⟩:=h;rw[dQ,dQ,List.getD_eq_getElem?_getD,List.getD_eq_getElem?_getD,List.getElem?_append_left hi]
theorem LC{xs:List ah}{i n:Nat}(h:i<n)(ha:aZ (aj xs (i:Nat)).1=true):(bI xs i).length<(bI xs n).length∧aj (bI xs n) (vo xs (i:Nat))=lV (aj xs (i:Nat)).1 (aj xs (i:Nat)).2.1 (aj xs (i:Nat)).2.2.1 (aj xs (i:Nat)).2.2.2.1 ((bA (aj xs (i:Nat))).length+1):=by
 have hp:=uZ xs (Nat.succ_le_of_lt h);have e:bI xs (i+1)=bI xs i++[lV (aj xs (i:Nat)).1 (aj xs (i:Nat)).2.1 (aj xs (i:Nat)).2.2.1 (aj xs (i:Nat)).2.2.2.1 ((bA (aj xs (i:Nat))).length+1)]:=by rw[bI,ha];rfl
 have hl:(bI xs i).length<(bI xs (i+1)).length:=by rw[e,List.length_append,List.length_singleton];omega
 refine⟨Nat.lt_of_lt_of_le hl hp.length_le,?_⟩;show aj (bI xs n) (((bI xs ((i:Nat):Int).toNat).length:Nat):Int)=_;rw[Int.toNat_natCast,IV hp hl,e,dQ,List.getD_eq_getElem?_getD,List.getElem?_append_right (Nat.le_refl _),Nat.sub_self];rfl
theorem pU{xs:List ah}{i n:Nat}(h:i<n)(ha:aZ (aj xs (i:Nat)).1=true){k:Nat}(hk:k≤(bA (aj xs (i:Nat))).length):bq (bI xs n) (vo xs (i:Nat),(k:Int)):=by
 obtain⟨h1,h2⟩:=LC h ha;refine⟨Int.natCast_nonneg _,?_,Int.natCast_nonneg _,?_⟩
 ·show(((bI xs ((i:Nat):Int).toNat).length:Nat):Int)<_;rw[Int.toNat_natCast];omega
 ·show(k:Int)<((aj (bI xs n) (vo xs (i:Nat))).2.2.2.2.length:Nat);rw[h2];show(k:Int)<((List.replicate _ _).length:Nat);rw[List.length_replicate];omega
theorem tN(xs:List ah)(n:Nat):bq (bI xs n) (0,0):=by
 have hp:=uZ xs (Nat.zero_le n);have h0:=JI xs n;refine⟨Int.le_refl 0,by show(0:Int)<_;omega,Int.le_refl 0,?_⟩;have e:aj (bI xs n) ((0:Nat):Int)=aj (bI xs 0) ((0:Nat):Int):=IV hp (by simp[bI]);show(0:Int)<((aj (bI xs n) ((0:Nat):Int)).2.2.2.2.length:Nat);rw[e];show(0:Int)<((1:Nat):Int);decide
structure qP(xs:List ah)(s:yg):Prop where
 len:s.1.length=(bI xs xs.length).length
 prt:∀i:Int,(aj s.1 i).aH.length=(aj (bI xs xs.length) i).aH.length
 kv:∀i:Int,gF s.2 i=true→bq (bI xs xs.length) (dI (0,0) s.2 i)
theorem qP.port{xs:List ah}{s:yg}(h:qP xs s){p:bX}(hp:bq (bI xs xs.length) p):bq s.1 p:=by
 unfold bq at hp ⊢;rw[h.len,h.prt];exact hp
theorem DJ(xs:List ah)(p q:bX)(i:Int):(aj (gG xs p q) i).aH.length=(aj xs i).aH.length:=by
 unfold gG;rw[j6,j6]
theorem qP.link{xs:List ah}{s:yg}(h:qP xs s)(p q:bX):qP xs (gG s.1 p q,s.2):=
 ⟨by show(gG s.1 p q).length=_;rw[Gb];exact h.len,fun i=>by show(aj (gG s.1 p q) i).aH.length=_;rw[DJ];exact h.prt i,h.kv⟩
theorem zl{α:Type}(kv:List (Int×α))(i j:Int)(x:α):gF (gW kv i x) j=(i==j||gF kv j):=by
 induction kv with
 |nil=>
  show(bif i==j then true else false)=_;unfold gF;cases i==j<;>rfl
 |cons e kv ih=>
  obtain⟨k,y⟩:=e;unfold gW;cases hk:k==i with
  |true=>
   have:=eq_of_beq hk;subst this;show(bif k==j then true else gF kv j)=(k==j||(bif k==j then true else gF kv j));cases k==j<;>rfl
  |false=>
   show(bif k==j then true else gF (gW kv i x) j)=(i==j||(bif k==j then true else gF kv j));rw[ih];cases k==j<;>cases i==j<;>rfl
theorem wK(kv:List (Int×bX))(i j:Int)(x:bX):dI (0,0) (gW kv i x) j=if i=j then x else dI (0,0) kv j:=by
 induction kv with
 |nil=>
  show(bif i==j then x else(0,0))=_
  by_cases h:i=j
  ·subst h;simp
  ·rw[if_neg h,beq_eq_false_iff_ne.2 h];rfl
 |cons e kv ih=>
  obtain⟨k,y⟩:=e;unfold gW;cases hk:k==i with
  |true=>
   have:=eq_of_beq hk;subst this;show(bif k==j then x else dI (0,0) kv j)=if k=j then x else(bif k==j then y else dI (0,0) kv j)
   by_cases h:k=j
   ·subst h;simp
   ·rw[if_neg h,beq_eq_false_iff_ne.2 h];rfl
  |false=>
   show(bif k==j then y else dI (0,0) (gW kv i x) j)=if i=j then x else(bif k==j then y else dI (0,0) kv j)
   rw[ih]
   by_cases h:i=j
   ·subst h;rw[hk,if_pos rfl,if_pos rfl];rfl
   ·rw[if_neg h,if_neg h]
theorem CJ{xs:List ah}(hv:∀c∈xs,∀x∈bA c,bH xs x=true):∀(k:Nat) {w:ay},bH xs w=true→bH xs (bF xs k w).1=true
 |0,w,h=>h
 |k+1,w,h=>by
  rw[gH];cases hc:((w.1 !=2)||(bA (aj xs w.2)).length==0)with
  |true=>exact h
  |false=>
   have hin:=dD h;obtain⟨m,hm⟩:∃m:Nat,w.2=(m:Nat):=⟨w.2.toNat,by omega⟩;rw[Bool.or_eq_false_iff]at hc;have hl0:0<(bA (aj xs w.2)).length:=by have:=hc.2;rw[beq_eq_false_iff_ne]at this;omega
   refine CJ hv k (hv (aj xs w.2) (by rw[hm];exact bR (by omega)) _ ?_);rw[List.getD_eq_getElem?_getD,List.getElem?_eq_getElem hl0];exact List.getElem_mem hl0
theorem lY.res{xs:List ah}{m:bE}(h:lY xs m){w:ay}(hw:bH m.1 w=true):(bF m.1 (m.1.length+1) w).2=true∧bH m.1 (bF m.1 (m.1.length+1) w).1=true:=by
 obtain⟨K,hK⟩:=Gx hw h.ends;exact⟨FZ h.words hw hK,CJ h.words _ hw⟩
theorem tO{xs:List ah}{w:ay}(hw:bH xs w=true)(ht:(w.1==1)=true):bq (bI xs xs.length) (vo xs w.2,0):=by
 have hin:=dD hw;have ha:=(mW hw).1;rw[ht]at ha;obtain⟨m,hm⟩:∃m:Nat,w.2=(m:Nat):=⟨w.2.toNat,by omega⟩;rw[hm]at ha ⊢;exact pU (k:=0) (by omega) ha.symm (Nat.zero_le _)
theorem qP.put{xs:List ah}{s:yg}(h:qP xs s){p:bX}(hp:bq (bI xs xs.length) p)(w:ay):qP xs (rX xs s p w):=by
 unfold rX;cases (bF xs (xs.length+1) w).1.1==1 with
 |true=>exact h.link _ _
 |false=>
  cases gF s.2 (bF xs (xs.length+1) w).1.2 with
  |true=>exact h.link _ _
  |false=>
   refine⟨h.len,h.prt,fun i hi=> ?_⟩;show bq _ (dI (0,0) (gW s.2 _ p) i);rw[wK]
   by_cases e:(bF xs (xs.length+1) w).1.2=i
   ·rw[if_pos e];exact hp
   ·rw[if_neg e];have hi:gF (gW s.2 (bF xs (xs.length+1) w).1.2 p) i=true:=hi;rw[zl,beq_eq_false_iff_ne.2 e]at hi;exact h.kv i hi
theorem qP.start(xs:List ah):qP xs (bI xs xs.length,[]):=⟨rfl,fun _=>rfl,fun i hi=>by cases hi⟩
theorem qP.puts{xs:List ah}{s:yg}(h:qP xs s){i:Nat}(hi:i<xs.length)(ha:aZ (aj xs (i:Nat)).1=true):∀k,k≤(bA (aj xs (i:Nat))).length→qP xs (eH xs i s k)
 |0,_=>h
 |k+1,hk=>(qP.puts h hi ha k (by omega)).put (pU hi ha hk) _
theorem qP.FT{xs:List ah}{s:yg}(h:qP xs s):∀i,i≤xs.length→qP xs (bQ xs s i)
 |0,_=>h
 |i+1,hi=>by
  rw[bQ];cases ha:aZ (aj xs (i:Nat)).1 with
  |true=>exact(qP.FT h i (by omega)).puts hi ha _ (Nat.le_refl _)
  |false=>exact qP.FT h i (by omega)
theorem qP.lW{xs:List ah}{s:yg}(h:qP xs s)(rs:List ay):∀k,qP xs (mO xs rs s.1 k,s.2)
 |0=>h
 |k+1=>(qP.lW h rs k).link _ _
theorem rY(m:bE):qP m.1 (eP m):=(qP.start m.1).put (tN _ _) _
end Go.Tr
