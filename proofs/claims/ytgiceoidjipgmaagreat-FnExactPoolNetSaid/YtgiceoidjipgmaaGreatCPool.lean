
/- Copies of these types: what they read as, in memory of their own. Printed by gen_fam.py. -/
import Derived.Test.YtgiceoidjipgmaaGreatProg
import Derived.Test.YtgiceoidjipgmaaGreatDPool
set_option maxHeartbeats 4000000
set_option linter.unusedSimpArgs false
set_option linter.unusedVariables false
namespace Go.Proofs.YtgiceoidjipgmaaGreat
open Go Go.RowKit Go.Proofs Go.Tr
theorem nO(x:aN)(w:World):
  Calls Tryz.prog 40 #[.agg #[.int .i64 x.tag,.int .i64 x.at_]] w fun e w'=>e=.returned (.agg #[.int .i64 x.tag,.int .i64 x.at_])∧Below w.heap.size w w':=by
 go_enter Tryz.func40,Tryz.ntmps40
 go_wp2
 refine bodyPost_ret (v:=.agg #[.int .i64 x.tag,.int .i64 x.at_]) (by simp[results,Tryz.results40,go_sem]) rfl ⟨rfl,?_⟩;exact(by repeat (first|exact Below.refl _ _|assumption|(refine Below.setCell ?_ (by first|omega|(simp;done)|(simp;omega)) _)|(refine Below.alloc ?_ (by first|omega|(simp;done)|(simp;omega)) _)))
theorem sF(xs:List Int){A:Option Addr}{c:Nat}{b1}(w:World)(hx:T1 w (.sl xs.length (xs.flatMap aP)) b1 (.slice A xs.length c))(hs:xs.length≤1048576):
  Calls Tryz.prog 81 #[.slice A xs.length c] w fun e w'=>∃A' c' bs,e=.returned (.slice A' xs.length c')∧Below w.heap.size w w'∧T1 w' (.sl xs.length (xs.flatMap aP)) bs (.slice A' xs.length c')∧Own w.heap.size w' bs:=by
 have hs1:=Lib.hid hs;have hn':xs.length≤1048576:=hs;clear hs;have hn:Hid (xs.length=xs.length):=rfl;generalize hl:xs.length=n at hx hn' hn ⊢
 replace hn:Hid (xs.length=n):=hl
 clear hl;obtain⟨M,hms,hmk,hsz'⟩:=jT (P:=Tryz.prog) (t:=70) (e:=2) (s:=1) (by kernel_rfl) Tryz.underlying70 hn';have hsz:=hsz';have Hms:=Lib.hid hms;clear hsz' hms
 go_enter Tryz.func81,Tryz.ntmps81
 go_wp2_with fail
 go_loopw [4] (fun i w'=>∃k:Nat,k≤n∧i=.int .i64 k∧Below w.heap.size w w'∧∃bs us,eU w' w.heap.size 2 n 1 us∧us.length=k*1∧TN w' ((xs.take k).flatMap aP) bs us∧Own (w.heap.size+1) w' bs) (fun i _=>n-(intOf i).toNat)
 case atStart=>exact⟨0,by omega,rfl,(Below.refl _ _).alloc (Nat.le_refl _) _,[],[],eU.new _ _ 2 n 1 Hms.out,by simp,by simpa using TN.done,Own.nil _ _⟩
 case round=>
  obtain⟨k,hk,rfl,hb,bs,us,hrow,hul,ht,ho⟩:=hrel
  by_cases hlt:k<n
  ·obtain⟨ba,oa,x,rfl,_,hba,hxk,x0⟩:=Aq (hx.below hb) hn.out hlt;have hul':=Lib.hid hul;clear hul;have hT:=TN.append.2 ⟨bs,[],us,_,rfl,rfl,ht,TN.fH (w:=wr) (x:=.int .i64 x) rfl TN.done⟩
   go_wp2_with (refine eY rfl 2 (.tmp 20) (.tmp 19) rfl w.heap.size 2 n 1 k us (.int .i64 x) (by rw[Nat.mul_one];rfl) rfl hrow hul'.out hlt hsz.h rfl rfl ?_;intro w2 hr2 hb2 hs2 ho2)
   have hbt:But w.heap.size wr w2:=⟨hb2.os,hb2.tape,hb2.output,hb2.size,fun j _ hj=>ho2 j hj⟩
   go_roundw
   case rel=>exact⟨k+1,by omega,by go_num,hb.trans hb2,bs++[],_,hr2,by simp[hul'.out,Value.cells,Nat.add_mul],by rw[jP aP hxk];exact hT.but hbt (by simpa using ho.mG (by omega)),by simpa using ho.but hbt (ho.mG (by omega))⟩
   case measure=>simp[intOf];omega
  ·have:k=n:=by omega
   subst this
   go_wp2_with fail
   go_ret;rw[List.take_of_length_le (by rw[hn.out];exact Nat.le_refl _)]at ht;rcases Nat.eq_zero_or_pos k with h0|h0
   ·subst h0;have:xs=[]:=List.eq_nil_of_length_eq_zero hn.out;subst this;exact⟨_,_,[],rfl,hb,T1.empty _,Own.nil _ _⟩
   ·obtain⟨cur,t',hg⟩:=hrow.own;exact⟨_,_,w.heap.size::bs,rfl,hb,T1.qH hrow h0 (by unfold maxLen;omega) ht,Own.cons hg (Nat.le_refl _) ho⟩
theorem Df(xs:List aN){A:Option Addr}{c:Nat}{b1}(w:World)(hx:T1 w (.sl xs.length (xs.flatMap aN.enc)) b1 (.slice A xs.length c))(hs:xs.length≤1048576∧∀y∈xs,aN.small y):
  Calls Tryz.prog 121 #[.slice A xs.length c] w fun e w'=>∃A' c' bs,e=.returned (.slice A' xs.length c')∧Below w.heap.size w w'∧T1 w' (.sl xs.length (xs.flatMap aN.enc)) bs (.slice A' xs.length c')∧Own w.heap.size w' bs:=by
 have hs1:=Lib.hid hs;have hn':xs.length≤1048576:=hs.1;clear hs;have hn:Hid (xs.length=xs.length):=rfl;generalize hl:xs.length=n at hx hn' hn ⊢
 replace hn:Hid (xs.length=n):=hl
 clear hl;obtain⟨M,hms,hmk,hsz'⟩:=jT (P:=Tryz.prog) (t:=82) (e:=38) (s:=2) (by kernel_rfl) Tryz.underlying82 hn';have hsz:=hsz';have Hms:=Lib.hid hms;clear hsz' hms
 go_enter Tryz.func121,Tryz.ntmps121
 go_wp2_with fail
 go_loopw [4] (fun i w'=>∃k:Nat,k≤n∧i=.int .i64 k∧Below w.heap.size w w'∧∃bs us,eU w' w.heap.size 38 n 2 us∧us.length=k*2∧TN w' ((xs.take k).flatMap aN.enc) bs us∧Own (w.heap.size+1) w' bs) (fun i _=>n-(intOf i).toNat)
 case atStart=>exact⟨0,by omega,rfl,(Below.refl _ _).alloc (Nat.le_refl _) _,[],[],eU.new _ _ 38 n 2 Hms.out,by simp,by simpa using TN.done,Own.nil _ _⟩
 case round=>
  obtain⟨k,hk,rfl,hb,bs,us,hrow,hul,ht,ho⟩:=hrel
  by_cases hlt:k<n
  ·obtain⟨ba,oa,x,rfl,hba,hxk,x0,x1⟩:=aN.iT (hx.below hb) hn.out hlt;have hul':=Lib.hid hul;clear hul
   go_wp2_with fail
   refine(nO x _).mono ?_;rintro e w1 ⟨rfl,hb1⟩;have hT:=TN.append.2 ⟨bs,[],us,_,rfl,rfl,ht.below hb1,aN.kK (w:=w1) (x:=x)⟩
   go_wp2_with (refine eY rfl 38 (.tmp 21) (.tmp 20) rfl w.heap.size 38 n 2 k us (.agg #[.int .i64 x.tag,.int .i64 x.at_]) rfl rfl (hrow.below hb1) hul'.out hlt hsz.h rfl rfl ?_;intro w2 hr2 hb2 hs2 ho2)
   have hbt:But w.heap.size w1 w2:=⟨hb2.os,hb2.tape,hb2.output,hb2.size,fun j _ hj=>ho2 j hj⟩
   go_roundw
   case rel=>exact⟨k+1,by omega,by go_num,(hb.trans (hb1.mono hb.size)).trans hb2,bs++[],_,hr2,by simp[hul'.out,Value.cells,Nat.add_mul],by rw[jP aN.enc hxk];exact hT.but hbt (by simpa using ho.mG (by omega)),by simpa using(ho.below hb1).but hbt (ho.mG (by omega))⟩
   case measure=>simp[intOf];omega
  ·have:k=n:=by omega
   subst this
   go_wp2_with fail
   go_ret;rw[List.take_of_length_le (by rw[hn.out];exact Nat.le_refl _)]at ht;rcases Nat.eq_zero_or_pos k with h0|h0
   ·subst h0;have:xs=[]:=List.eq_nil_of_length_eq_zero hn.out;subst this;exact⟨_,_,[],rfl,hb,T1.empty _,Own.nil _ _⟩
   ·obtain⟨cur,t',hg⟩:=hrow.own;exact⟨_,_,w.heap.size::bs,rfl,hb,T1.qH hrow h0 (by unfold maxLen;omega) ht,Own.cons hg (Nat.le_refl _) ho⟩
theorem En(x:aK){b us}(w:World)(hx:TN w x.enc b us)(hs:x.small):
  Calls Tryz.prog 78 #[.agg us.toArray] w fun e w'=>∃vs bs,e=.returned (.agg vs.toArray)∧Below w.heap.size w w'∧TN w' x.enc bs vs∧Own w.heap.size w' bs:=by
 obtain⟨Ax3,cx3,bx3,Ax4,cx4,bx4,rfl,rfl,tx3,lx3,mx3,tx4,lx4,mx4⟩:=aK.us hx;obtain⟨s3,s4⟩:=hs
 go_enter Tryz.func78,Tryz.ntmps78
 have B0:∀S Z O,Below w.heap.size w (((w.alloc S).alloc Z).alloc O):=fun _ _ _=>(((Below.refl _ _).alloc (Nat.le_refl _) _).alloc (by simp) _).alloc (by simp;omega) _
 go_wp2_with fail
 refine(sF x.data _ (tx3.below (B0 _ _ _)) s3).mono ?_;rintro e w1 ⟨A1,a1,d1,rfl,hb1,y1,o1⟩;have z1:w.heap.size+2<w1.heap.size:=by have:=hb1.size;simp at this;omega
 have B1:Below w.heap.size w w1:=Below.trans (B0 _ _ _) (hb1.mono (by simp<;>omega))
 replace o1:Own (w.heap.size+3) w1 d1:=by simpa using o1
 have r1_0:=(hb1.block w.heap.size (by simp<;>omega)).trans (lG w _ _ _).1;have r1_1:=(hb1.block (w.heap.size+1) (by simp<;>omega)).trans (lG w _ _ _).2.1;have r1_2:=(hb1.block (w.heap.size+1+1) (by simp<;>omega)).trans (lG w _ _ _).2.2;have q1_0_0:=cell_of_row _ _ 0 _ _ _ r1_0;have q1_0_1:=cell_of_row _ _ 1 _ _ _ r1_0;have q1_0_2:=cell_of_row _ _ 2 _ _ _ r1_0;have q1_0_3:=cell_of_row _ _ 3 _ _ _ r1_0;have q1_0_4:=cell_of_row _ _ 4 _ _ _ r1_0;simp only[List.getElem?_toArray,List.getElem?_cons_zero,List.getElem?_cons_succ]at q1_0_0 q1_0_1 q1_0_2 q1_0_3 q1_0_4
 have f1_0:=aY r1_0;have q1_1_0:=cell_of_row _ _ 0 _ _ _ r1_1;have q1_1_1:=cell_of_row _ _ 1 _ _ _ r1_1;have q1_1_2:=cell_of_row _ _ 2 _ _ _ r1_1;have q1_1_3:=cell_of_row _ _ 3 _ _ _ r1_1;have q1_1_4:=cell_of_row _ _ 4 _ _ _ r1_1;simp only[List.getElem?_toArray,List.getElem?_cons_zero,List.getElem?_cons_succ]at q1_1_0 q1_1_1 q1_1_2 q1_1_3 q1_1_4;have f1_1:=aY r1_1;have q1_2_0:=cell_of_row _ _ 0 _ _ _ r1_2;have q1_2_1:=cell_of_row _ _ 1 _ _ _ r1_2;have q1_2_2:=cell_of_row _ _ 2 _ _ _ r1_2;have q1_2_3:=cell_of_row _ _ 3 _ _ _ r1_2;have q1_2_4:=cell_of_row _ _ 4 _ _ _ r1_2
 simp only[List.getElem?_toArray,List.getElem?_cons_zero,List.getElem?_cons_succ]at q1_2_0 q1_2_1 q1_2_2 q1_2_3 q1_2_4;have f1_2:=aY r1_2;clear hb1
 go_wp2_with fail
 refine(Df x.words _ (tx4.below (B1.setCell (by simp<;>omega) _)) s4).mono ?_;rintro e w2 ⟨A2,a2,d2,rfl,hb2,y2,o2⟩;have z2:w.heap.size+2<w2.heap.size:=by have:=hb2.size;simp at this;omega
 have B2:Below w.heap.size w w2:=Below.trans (B1.setCell (by simp<;>omega) _) (hb2.mono (by simp<;>omega));have g2:jZ (w.heap.size+3) w1 w2:=jZ.below ((jZ.refl (w.heap.size+3) _).setCell (by simp<;>omega) _) hb2
 replace o2:Own w1.heap.size w2 d2:=by simpa using o2
 have r2_0:=(hb2.block w.heap.size (by simp<;>omega)).trans ((Below.heap_setCell _ _ _ _ (by simp<;>omega)).trans r1_0);have r2_1:=(hb2.block (w.heap.size+1) (by simp<;>omega)).trans ((Below.heap_setCell _ _ _ _ (by simp<;>omega)).trans r1_1);have r2_2:=(hb2.block (w.heap.size+1+1) (by simp<;>omega)).trans (Rows.bL r1_2);simp only[List.setIfInBounds_toArray,List.set_cons_zero,List.set_cons_succ]at r2_2;have q2_0_0:=cell_of_row _ _ 0 _ _ _ r2_0;have q2_0_1:=cell_of_row _ _ 1 _ _ _ r2_0;have q2_0_2:=cell_of_row _ _ 2 _ _ _ r2_0;have q2_0_3:=cell_of_row _ _ 3 _ _ _ r2_0
 have q2_0_4:=cell_of_row _ _ 4 _ _ _ r2_0;simp only[List.getElem?_toArray,List.getElem?_cons_zero,List.getElem?_cons_succ]at q2_0_0 q2_0_1 q2_0_2 q2_0_3 q2_0_4;have f2_0:=aY r2_0;have q2_1_0:=cell_of_row _ _ 0 _ _ _ r2_1;have q2_1_1:=cell_of_row _ _ 1 _ _ _ r2_1;have q2_1_2:=cell_of_row _ _ 2 _ _ _ r2_1;have q2_1_3:=cell_of_row _ _ 3 _ _ _ r2_1;have q2_1_4:=cell_of_row _ _ 4 _ _ _ r2_1;simp only[List.getElem?_toArray,List.getElem?_cons_zero,List.getElem?_cons_succ]at q2_1_0 q2_1_1 q2_1_2 q2_1_3 q2_1_4;have f2_1:=aY r2_1;have q2_2_0:=cell_of_row _ _ 0 _ _ _ r2_2
 have q2_2_1:=cell_of_row _ _ 1 _ _ _ r2_2;have q2_2_2:=cell_of_row _ _ 2 _ _ _ r2_2;have q2_2_3:=cell_of_row _ _ 3 _ _ _ r2_2;have q2_2_4:=cell_of_row _ _ 4 _ _ _ r2_2;simp only[List.getElem?_toArray,List.getElem?_cons_zero,List.getElem?_cons_succ]at q2_2_0 q2_2_1 q2_2_2 q2_2_3 q2_2_4;have f2_2:=aY r2_2;clear r1_0 f1_0 q1_0_0 q1_0_1 q1_0_2 q1_0_3 q1_0_4 r1_1 f1_1 q1_1_0 q1_1_1 q1_1_2 q1_1_3 q1_1_4 r1_2 f1_2 q1_2_0 q1_2_1 q1_2_2 q1_2_3 q1_2_4;clear hb2
 go_wp2_with fail
 have HG:∀W',jZ (w.heap.size+3) w2 W'→TN W' x.enc (d1++d2) [.int .i64 x.kind,.int .i64 x.level,.int .i64 x.value,.slice A1 x.data.length a1,.slice A2 x.words.length a2]∧Own w.heap.size W' (d1++d2):=by
  intro W' hW;have k2:=hW;have k1:=g2.trans k2;have s_1:w1.heap.size≤w2.heap.size:=g2.1;have ht:=aK.kK (w:=W') (x:=x) (y1.xY k1 o1.ge) (y2.xY k2 (fun b hb=>Nat.le_trans (by omega) (o2.ge b hb)));have p1:Own w.heap.size W' d1:=(o1.xY k1 (by omega)).mono (by omega);have l1:∀b∈d1,b<w1.heap.size:=o1.lt;have p2:Own w.heap.size W' (d1++d2):=Own.append p1 (fun b hb=>Nat.lt_of_lt_of_le (l1 b hb) (by omega)) (o2.xY k2 (by omega)) (by omega);have l2:∀b∈d1++d2,b<w2.heap.size:=fun b hb=>(List.mem_append.1 hb).elim (fun h=>Nat.lt_of_lt_of_le (l1 b h) (by omega)) (o2.lt b)
  exact⟨by simpa[List.append_assoc]using ht,p2⟩
 refine bodyPost_ret (v:=.agg #[.int .i64 x.kind,.int .i64 x.level,.int .i64 x.value,.slice A1 x.data.length a1,.slice A2 x.words.length a2]) (by simp[results,Tryz.results78,go_sem,q2_1_0,q2_1_1,q2_1_2,q2_1_3,q2_1_4]) rfl ?_;refine⟨_,_,rfl,?_,HG _ ?_⟩
 ·repeat (refine Below.setCell ?_ (by simp<;>omega) _)
  exact B2
 ·repeat (refine jZ.setCell ?_ (by simp<;>omega) _)
  exact jZ.refl _ _
theorem Ep(x:aD)(w:World):
  Calls Tryz.prog 79 #[.agg #[.int .i64 x.a,.int .i64 x.b]] w fun e w'=>e=.returned (.agg #[.int .i64 x.a,.int .i64 x.b])∧Below w.heap.size w w':=by
 go_enter Tryz.func79,Tryz.ntmps79
 go_wp2
 refine bodyPost_ret (v:=.agg #[.int .i64 x.a,.int .i64 x.b]) (by simp[results,Tryz.results79,go_sem]) rfl ⟨rfl,?_⟩;exact(by repeat (first|exact Below.refl _ _|assumption|(refine Below.setCell ?_ (by first|omega|(simp;done)|(simp;omega)) _)|(refine Below.alloc ?_ (by first|omega|(simp;done)|(simp;omega)) _)))
theorem Db(xs:List aK){A:Option Addr}{c:Nat}{b1}(w:World)(hx:T1 w (.sl xs.length (xs.flatMap aK.enc)) b1 (.slice A xs.length c))(hs:xs.length≤1048576∧∀y∈xs,aK.small y):
  Calls Tryz.prog 39 #[.slice A xs.length c] w fun e w'=>∃A' c' bs,e=.returned (.slice A' xs.length c')∧Below w.heap.size w w'∧T1 w' (.sl xs.length (xs.flatMap aK.enc)) bs (.slice A' xs.length c')∧Own w.heap.size w' bs:=by
 have hs1:=Lib.hid hs;have hn':xs.length≤1048576:=hs.1;clear hs;have hn:Hid (xs.length=xs.length):=rfl;generalize hl:xs.length=n at hx hn' hn ⊢
 replace hn:Hid (xs.length=n):=hl
 clear hl;obtain⟨M,hms,hmk,hsz'⟩:=jT (P:=Tryz.prog) (t:=37) (e:=123) (s:=5) (by kernel_rfl) Tryz.underlying37 hn';have hsz:=hsz';have Hms:=Lib.hid hms;clear hsz' hms
 go_enter Tryz.func39,Tryz.ntmps39
 go_wp2_with fail
 go_loopw [4] (fun i w'=>∃k:Nat,k≤n∧i=.int .i64 k∧Below w.heap.size w w'∧∃bs us,eU w' w.heap.size 123 n 5 us∧us.length=k*5∧TN w' ((xs.take k).flatMap aK.enc) bs us∧Own (w.heap.size+1) w' bs) (fun i _=>n-(intOf i).toNat)
 case atStart=>exact⟨0,by omega,rfl,(Below.refl _ _).alloc (Nat.le_refl _) _,[],[],eU.new _ _ 123 n 5 Hms.out,by simp,by simpa using TN.done,Own.nil _ _⟩
 case round=>
  obtain⟨k,hk,rfl,hb,bs,us,hrow,hul,ht,ho⟩:=hrel
  by_cases hlt:k<n
  ·obtain⟨ba,oa,x,Ax3,cx3,px3,Ax4,cx4,px4,rfl,hba,hxk,x0,x1,x2,x3,x4,tx3,lx3,mx3,tx4,lx4,mx4⟩:=aK.iT (hx.below hb) hn.out hlt;have nx:=aK.kK (w:=wr) (x:=x) tx3 tx4;have hul':=Lib.hid hul;clear hul
   go_wp2_with fail
   refine(En x _ nx (hs1.out.2 x (List.mem_of_getElem? hxk.out))).mono ?_;rintro e w1 ⟨vs,ds,rfl,hb1,hy,oy⟩;have hvl:vs.toArray.size=5:=by have:=hy.length;simpa[aK.enc]using this
   have hv1:vs.all (·.oneCell')=true:=hy.yG;have hT:=TN.append.2 ⟨bs,_,us,vs,rfl,rfl,ht.below hb1,hy⟩;have hO:Own (w.heap.size+1) w1 (bs++ds):=Own.append (ho.below hb1) ho.lt oy (by have:=hrow.lt;omega)
   go_wp2_with (refine eY rfl 123 (.tmp 21) (.tmp 20) rfl w.heap.size 123 n 5 k us (.agg vs.toArray) (by first|rfl|(rw[Nat.mul_one];rfl)) rfl (hrow.below hb1) hul'.out hlt hsz.h hvl (by simpa[Value.cells]using hv1) ?_;intro w2 hr2 hb2 hs2 ho2)
   have hbt:But w.heap.size w1 w2:=⟨hb2.os,hb2.tape,hb2.output,hb2.size,fun j _ hj=>ho2 j hj⟩
   go_roundw
   case rel=>exact⟨k+1,by omega,by go_num,(hb.trans (hb1.mono hb.size)).trans hb2,_,_,hr2,by have:=hvl;simp[hul'.out,Value.cells,Nat.add_mul]at this ⊢;omega,by rw[jP aK.enc hxk];exact hT.but hbt (hO.mG (by omega)),hO.but hbt (hO.mG (by omega))⟩
   case measure=>simp[intOf];omega
  ·have:k=n:=by omega
   subst this
   go_wp2_with fail
   go_ret;rw[List.take_of_length_le (by rw[hn.out];exact Nat.le_refl _)]at ht;rcases Nat.eq_zero_or_pos k with h0|h0
   ·subst h0;have:xs=[]:=List.eq_nil_of_length_eq_zero hn.out;subst this;exact⟨_,_,[],rfl,hb,T1.empty _,Own.nil _ _⟩
   ·obtain⟨cur,t',hg⟩:=hrow.own;exact⟨_,_,w.heap.size::bs,rfl,hb,T1.qH hrow h0 (by unfold maxLen;omega) ht,Own.cons hg (Nat.le_refl _) ho⟩
theorem uM(xs:List aD){A:Option Addr}{c:Nat}{b1}(w:World)(hx:T1 w (.sl xs.length (xs.flatMap aD.enc)) b1 (.slice A xs.length c))(hs:xs.length≤1048576∧∀y∈xs,aD.small y):
  Calls Tryz.prog 41 #[.slice A xs.length c] w fun e w'=>∃A' c' bs,e=.returned (.slice A' xs.length c')∧Below w.heap.size w w'∧T1 w' (.sl xs.length (xs.flatMap aD.enc)) bs (.slice A' xs.length c')∧Own w.heap.size w' bs:=by
 have hs1:=Lib.hid hs;have hn':xs.length≤1048576:=hs.1;clear hs;have hn:Hid (xs.length=xs.length):=rfl;generalize hl:xs.length=n at hx hn' hn ⊢
 replace hn:Hid (xs.length=n):=hl
 clear hl;obtain⟨M,hms,hmk,hsz'⟩:=jT (P:=Tryz.prog) (t:=39) (e:=127) (s:=2) (by kernel_rfl) Tryz.underlying39 hn';have hsz:=hsz';have Hms:=Lib.hid hms;clear hsz' hms
 go_enter Tryz.func41,Tryz.ntmps41
 go_wp2_with fail
 go_loopw [4] (fun i w'=>∃k:Nat,k≤n∧i=.int .i64 k∧Below w.heap.size w w'∧∃bs us,eU w' w.heap.size 127 n 2 us∧us.length=k*2∧TN w' ((xs.take k).flatMap aD.enc) bs us∧Own (w.heap.size+1) w' bs) (fun i _=>n-(intOf i).toNat)
 case atStart=>exact⟨0,by omega,rfl,(Below.refl _ _).alloc (Nat.le_refl _) _,[],[],eU.new _ _ 127 n 2 Hms.out,by simp,by simpa using TN.done,Own.nil _ _⟩
 case round=>
  obtain⟨k,hk,rfl,hb,bs,us,hrow,hul,ht,ho⟩:=hrel
  by_cases hlt:k<n
  ·obtain⟨ba,oa,x,rfl,hba,hxk,x0,x1⟩:=aD.iT (hx.below hb) hn.out hlt;have hul':=Lib.hid hul;clear hul
   go_wp2_with fail
   refine(Ep x _).mono ?_;rintro e w1 ⟨rfl,hb1⟩;have hT:=TN.append.2 ⟨bs,[],us,_,rfl,rfl,ht.below hb1,aD.kK (w:=w1) (x:=x)⟩
   go_wp2_with (refine eY rfl 127 (.tmp 21) (.tmp 20) rfl w.heap.size 127 n 2 k us (.agg #[.int .i64 x.a,.int .i64 x.b]) rfl rfl (hrow.below hb1) hul'.out hlt hsz.h rfl rfl ?_;intro w2 hr2 hb2 hs2 ho2)
   have hbt:But w.heap.size w1 w2:=⟨hb2.os,hb2.tape,hb2.output,hb2.size,fun j _ hj=>ho2 j hj⟩
   go_roundw
   case rel=>exact⟨k+1,by omega,by go_num,(hb.trans (hb1.mono hb.size)).trans hb2,bs++[],_,hr2,by simp[hul'.out,Value.cells,Nat.add_mul],by rw[jP aD.enc hxk];exact hT.but hbt (by simpa using ho.mG (by omega)),by simpa using(ho.below hb1).but hbt (ho.mG (by omega))⟩
   case measure=>simp[intOf];omega
  ·have:k=n:=by omega
   subst this
   go_wp2_with fail
   go_ret;rw[List.take_of_length_le (by rw[hn.out];exact Nat.le_refl _)]at ht;rcases Nat.eq_zero_or_pos k with h0|h0
   ·subst h0;have:xs=[]:=List.eq_nil_of_length_eq_zero hn.out;subst this;exact⟨_,_,[],rfl,hb,T1.empty _,Own.nil _ _⟩
   ·obtain⟨cur,t',hg⟩:=hrow.own;exact⟨_,_,w.heap.size::bs,rfl,hb,T1.qH hrow h0 (by unfold maxLen;omega) ht,Own.cons hg (Nat.le_refl _) ho⟩
theorem A9(x:bg){b us}(w:World)(hx:TN w x.enc b us)(hs:x.small):
  Calls Tryz.prog 17 #[.agg us.toArray] w fun e w'=>∃vs bs,e=.returned (.agg vs.toArray)∧Below w.heap.size w w'∧TN w' x.enc bs vs∧Own w.heap.size w' bs:=by
 obtain⟨Ax0,cx0,bx0,Ax4,cx4,bx4,rfl,rfl,tx0,lx0,mx0,tx4,lx4,mx4⟩:=bg.us hx;obtain⟨s0,s2,s3⟩:=hs
 go_enter Tryz.func17,Tryz.ntmps17
 have B0:∀S Z O,Below w.heap.size w (((w.alloc S).alloc Z).alloc O):=fun _ _ _=>(((Below.refl _ _).alloc (Nat.le_refl _) _).alloc (by simp) _).alloc (by simp;omega) _
 go_wp2_with fail
 refine(Db x.cells _ (tx0.below (B0 _ _ _)) s0).mono ?_;rintro e w1 ⟨A1,a1,d1,rfl,hb1,y1,o1⟩;have z1:w.heap.size+2<w1.heap.size:=by have:=hb1.size;simp at this;omega
 have B1:Below w.heap.size w w1:=Below.trans (B0 _ _ _) (hb1.mono (by simp<;>omega))
 replace o1:Own (w.heap.size+3) w1 d1:=by simpa using o1
 have r1_0:=(hb1.block w.heap.size (by simp<;>omega)).trans (lG w _ _ _).1;have r1_1:=(hb1.block (w.heap.size+1) (by simp<;>omega)).trans (lG w _ _ _).2.1;have r1_2:=(hb1.block (w.heap.size+1+1) (by simp<;>omega)).trans (lG w _ _ _).2.2;have q1_0_0:=cell_of_row _ _ 0 _ _ _ r1_0;have q1_0_1:=cell_of_row _ _ 1 _ _ _ r1_0;have q1_0_2:=cell_of_row _ _ 2 _ _ _ r1_0;have q1_0_3:=cell_of_row _ _ 3 _ _ _ r1_0;have q1_0_4:=cell_of_row _ _ 4 _ _ _ r1_0;simp only[List.getElem?_toArray,List.getElem?_cons_zero,List.getElem?_cons_succ]at q1_0_0 q1_0_1 q1_0_2 q1_0_3 q1_0_4
 have f1_0:=aY r1_0;have q1_1_0:=cell_of_row _ _ 0 _ _ _ r1_1;have q1_1_1:=cell_of_row _ _ 1 _ _ _ r1_1;have q1_1_2:=cell_of_row _ _ 2 _ _ _ r1_1;have q1_1_3:=cell_of_row _ _ 3 _ _ _ r1_1;have q1_1_4:=cell_of_row _ _ 4 _ _ _ r1_1;simp only[List.getElem?_toArray,List.getElem?_cons_zero,List.getElem?_cons_succ]at q1_1_0 q1_1_1 q1_1_2 q1_1_3 q1_1_4;have f1_1:=aY r1_1;have q1_2_0:=cell_of_row _ _ 0 _ _ _ r1_2;have q1_2_1:=cell_of_row _ _ 1 _ _ _ r1_2;have q1_2_2:=cell_of_row _ _ 2 _ _ _ r1_2;have q1_2_3:=cell_of_row _ _ 3 _ _ _ r1_2;have q1_2_4:=cell_of_row _ _ 4 _ _ _ r1_2
 simp only[List.getElem?_toArray,List.getElem?_cons_zero,List.getElem?_cons_succ]at q1_2_0 q1_2_1 q1_2_2 q1_2_3 q1_2_4;have f1_2:=aY r1_2;clear hb1
 go_wp2_with fail
 refine(nO x.root _).mono ?_;rintro e w2 ⟨rfl,hb2⟩;have z2:w.heap.size+2<w2.heap.size:=by have:=hb2.size;simp at this;omega
 have B2:Below w.heap.size w w2:=Below.trans ((B1.setCell (by simp<;>omega) _).setCell (by simp<;>omega) _) (hb2.mono (by simp<;>omega));have g2:jZ (w.heap.size+3) w1 w2:=jZ.below (((jZ.refl (w.heap.size+3) _).setCell (by simp<;>omega) _).setCell (by simp<;>omega) _) hb2;have r2_0:=(hb2.block w.heap.size (by simp<;>omega)).trans ((Below.heap_setCell _ _ _ _ (by simp<;>omega)).trans ((Below.heap_setCell _ _ _ _ (by simp<;>omega)).trans r1_0));have r2_1:=(hb2.block (w.heap.size+1) (by simp<;>omega)).trans ((Below.heap_setCell _ _ _ _ (by simp<;>omega)).trans ((Below.heap_setCell _ _ _ _ (by simp<;>omega)).trans r1_1))
 have r2_2:=(hb2.block (w.heap.size+1+1) (by simp<;>omega)).trans (Rows.bL (Rows.bL r1_2));simp only[List.setIfInBounds_toArray,List.set_cons_zero,List.set_cons_succ]at r2_2;have q2_0_0:=cell_of_row _ _ 0 _ _ _ r2_0;have q2_0_1:=cell_of_row _ _ 1 _ _ _ r2_0;have q2_0_2:=cell_of_row _ _ 2 _ _ _ r2_0;have q2_0_3:=cell_of_row _ _ 3 _ _ _ r2_0;have q2_0_4:=cell_of_row _ _ 4 _ _ _ r2_0;simp only[List.getElem?_toArray,List.getElem?_cons_zero,List.getElem?_cons_succ]at q2_0_0 q2_0_1 q2_0_2 q2_0_3 q2_0_4;have f2_0:=aY r2_0;have q2_1_0:=cell_of_row _ _ 0 _ _ _ r2_1
 have q2_1_1:=cell_of_row _ _ 1 _ _ _ r2_1;have q2_1_2:=cell_of_row _ _ 2 _ _ _ r2_1;have q2_1_3:=cell_of_row _ _ 3 _ _ _ r2_1;have q2_1_4:=cell_of_row _ _ 4 _ _ _ r2_1;simp only[List.getElem?_toArray,List.getElem?_cons_zero,List.getElem?_cons_succ]at q2_1_0 q2_1_1 q2_1_2 q2_1_3 q2_1_4;have f2_1:=aY r2_1;have q2_2_0:=cell_of_row _ _ 0 _ _ _ r2_2;have q2_2_1:=cell_of_row _ _ 1 _ _ _ r2_2;have q2_2_2:=cell_of_row _ _ 2 _ _ _ r2_2;have q2_2_3:=cell_of_row _ _ 3 _ _ _ r2_2;have q2_2_4:=cell_of_row _ _ 4 _ _ _ r2_2;simp only[List.getElem?_toArray,List.getElem?_cons_zero,List.getElem?_cons_succ]at q2_2_0 q2_2_1 q2_2_2 q2_2_3 q2_2_4
 have f2_2:=aY r2_2;clear r1_0 f1_0 q1_0_0 q1_0_1 q1_0_2 q1_0_3 q1_0_4 r1_1 f1_1 q1_1_0 q1_1_1 q1_1_2 q1_1_3 q1_1_4 r1_2 f1_2 q1_2_0 q1_2_1 q1_2_2 q1_2_3 q1_2_4;clear hb2
 go_wp2_with fail
 refine(uM x.redexes _ (tx4.below ((B2.setCell (by simp<;>omega) _).setCell (by simp<;>omega) _)) s3).mono ?_;rintro e w3 ⟨A3,a3,d3,rfl,hb3,y3,o3⟩;have z3:w.heap.size+2<w3.heap.size:=by have:=hb3.size;simp at this;omega
 have B3:Below w.heap.size w w3:=Below.trans ((B2.setCell (by simp<;>omega) _).setCell (by simp<;>omega) _) (hb3.mono (by simp<;>omega));have g3:jZ (w.heap.size+3) w2 w3:=jZ.below (((jZ.refl (w.heap.size+3) _).setCell (by simp<;>omega) _).setCell (by simp<;>omega) _) hb3
 replace o3:Own w2.heap.size w3 d3:=by simpa using o3
 have r3_0:=(hb3.block w.heap.size (by simp<;>omega)).trans ((Below.heap_setCell _ _ _ _ (by simp<;>omega)).trans ((Below.heap_setCell _ _ _ _ (by simp<;>omega)).trans r2_0));have r3_1:=(hb3.block (w.heap.size+1) (by simp<;>omega)).trans ((Below.heap_setCell _ _ _ _ (by simp<;>omega)).trans ((Below.heap_setCell _ _ _ _ (by simp<;>omega)).trans r2_1));have r3_2:=(hb3.block (w.heap.size+1+1) (by simp<;>omega)).trans (Rows.bL (Rows.bL r2_2));simp only[List.setIfInBounds_toArray,List.set_cons_zero,List.set_cons_succ]at r3_2;have q3_0_0:=cell_of_row _ _ 0 _ _ _ r3_0
 have q3_0_1:=cell_of_row _ _ 1 _ _ _ r3_0;have q3_0_2:=cell_of_row _ _ 2 _ _ _ r3_0;have q3_0_3:=cell_of_row _ _ 3 _ _ _ r3_0;have q3_0_4:=cell_of_row _ _ 4 _ _ _ r3_0;simp only[List.getElem?_toArray,List.getElem?_cons_zero,List.getElem?_cons_succ]at q3_0_0 q3_0_1 q3_0_2 q3_0_3 q3_0_4;have f3_0:=aY r3_0;have q3_1_0:=cell_of_row _ _ 0 _ _ _ r3_1;have q3_1_1:=cell_of_row _ _ 1 _ _ _ r3_1;have q3_1_2:=cell_of_row _ _ 2 _ _ _ r3_1;have q3_1_3:=cell_of_row _ _ 3 _ _ _ r3_1;have q3_1_4:=cell_of_row _ _ 4 _ _ _ r3_1;simp only[List.getElem?_toArray,List.getElem?_cons_zero,List.getElem?_cons_succ]at q3_1_0 q3_1_1 q3_1_2 q3_1_3 q3_1_4
 have f3_1:=aY r3_1;have q3_2_0:=cell_of_row _ _ 0 _ _ _ r3_2;have q3_2_1:=cell_of_row _ _ 1 _ _ _ r3_2;have q3_2_2:=cell_of_row _ _ 2 _ _ _ r3_2;have q3_2_3:=cell_of_row _ _ 3 _ _ _ r3_2;have q3_2_4:=cell_of_row _ _ 4 _ _ _ r3_2;simp only[List.getElem?_toArray,List.getElem?_cons_zero,List.getElem?_cons_succ]at q3_2_0 q3_2_1 q3_2_2 q3_2_3 q3_2_4;have f3_2:=aY r3_2;clear r2_0 f2_0 q2_0_0 q2_0_1 q2_0_2 q2_0_3 q2_0_4 r2_1 f2_1 q2_1_0 q2_1_1 q2_1_2 q2_1_3 q2_1_4 r2_2 f2_2 q2_2_0 q2_2_1 q2_2_2 q2_2_3 q2_2_4;clear hb3
 go_wp2_with fail
 have HG:∀W',jZ (w.heap.size+3) w3 W'→TN W' x.enc (d1++d3) [.slice A1 x.cells.length a1,.int .i64 x.free,.int .i64 x.root.tag,.int .i64 x.root.at_,.slice A3 x.redexes.length a3]∧Own w.heap.size W' (d1++d3):=by
  intro W' hW;have k3:=hW;have k2:=g3.trans k3;have k1:=g2.trans k2;have s_1:w1.heap.size≤w2.heap.size:=g2.1;have s_2:w2.heap.size≤w3.heap.size:=g3.1;have ht:=bg.kK (w:=W') (x:=x) (y1.xY k1 o1.ge) (y3.xY k3 (fun b hb=>Nat.le_trans (by omega) (o3.ge b hb)));have p1:Own w.heap.size W' d1:=(o1.xY k1 (by omega)).mono (by omega);have l1:∀b∈d1,b<w1.heap.size:=o1.lt;have p3:Own w.heap.size W' (d1++d3):=Own.append p1 (fun b hb=>Nat.lt_of_lt_of_le (l1 b hb) (by omega)) (o3.xY k3 (by omega)) (by omega);have l3:∀b∈d1++d3,b<w3.heap.size:=fun b hb=>(List.mem_append.1 hb).elim (fun h=>Nat.lt_of_lt_of_le (l1 b h) (by omega)) (o3.lt b)
  exact⟨by simpa[List.append_assoc]using ht,p3⟩
 refine bodyPost_ret (v:=.agg #[.slice A1 x.cells.length a1,.int .i64 x.free,.int .i64 x.root.tag,.int .i64 x.root.at_,.slice A3 x.redexes.length a3]) (by simp[results,Tryz.results17,go_sem,q3_1_0,q3_1_1,q3_1_2,q3_1_3,q3_1_4]) rfl ?_;refine⟨_,_,rfl,?_,HG _ ?_⟩
 ·repeat (refine Below.setCell ?_ (by simp<;>omega) _)
  exact B3
 ·repeat (refine jZ.setCell ?_ (by simp<;>omega) _)
  exact jZ.refl _ _
theorem Eo(x:aS)(w:World):
  Calls Tryz.prog 122 #[.agg #[.int .i64 x.a.tag,.int .i64 x.a.at_,.int .i64 x.b.tag,.int .i64 x.b.at_]] w fun e w'=>e=.returned (.agg #[.int .i64 x.a.tag,.int .i64 x.a.at_,.int .i64 x.b.tag,.int .i64 x.b.at_])∧Below w.heap.size w w':=by
 go_enter Tryz.func122,Tryz.ntmps122
 have B0:∀S Z O,Below w.heap.size w (((w.alloc S).alloc Z).alloc O):=fun _ _ _=>(((Below.refl _ _).alloc (Nat.le_refl _) _).alloc (by simp) _).alloc (by simp;omega) _
 go_wp2_with fail
 refine(nO x.a _).mono ?_;rintro e w1 ⟨rfl,hb1⟩;have z1:w.heap.size+2<w1.heap.size:=by have:=hb1.size;simp at this;omega
 have B1:Below w.heap.size w w1:=Below.trans (B0 _ _ _) (hb1.mono (by simp<;>omega));have r1_0:=(hb1.block w.heap.size (by simp<;>omega)).trans (lG w _ _ _).1;have r1_1:=(hb1.block (w.heap.size+1) (by simp<;>omega)).trans (lG w _ _ _).2.1;have r1_2:=(hb1.block (w.heap.size+1+1) (by simp<;>omega)).trans (lG w _ _ _).2.2;have q1_0_0:=cell_of_row _ _ 0 _ _ _ r1_0;have q1_0_1:=cell_of_row _ _ 1 _ _ _ r1_0;have q1_0_2:=cell_of_row _ _ 2 _ _ _ r1_0;have q1_0_3:=cell_of_row _ _ 3 _ _ _ r1_0;simp only[List.getElem?_toArray,List.getElem?_cons_zero,List.getElem?_cons_succ]at q1_0_0 q1_0_1 q1_0_2 q1_0_3
 have f1_0:=aY r1_0;have q1_1_0:=cell_of_row _ _ 0 _ _ _ r1_1;have q1_1_1:=cell_of_row _ _ 1 _ _ _ r1_1;have q1_1_2:=cell_of_row _ _ 2 _ _ _ r1_1;have q1_1_3:=cell_of_row _ _ 3 _ _ _ r1_1;simp only[List.getElem?_toArray,List.getElem?_cons_zero,List.getElem?_cons_succ]at q1_1_0 q1_1_1 q1_1_2 q1_1_3;have f1_1:=aY r1_1;have q1_2_0:=cell_of_row _ _ 0 _ _ _ r1_2;have q1_2_1:=cell_of_row _ _ 1 _ _ _ r1_2;have q1_2_2:=cell_of_row _ _ 2 _ _ _ r1_2;have q1_2_3:=cell_of_row _ _ 3 _ _ _ r1_2;simp only[List.getElem?_toArray,List.getElem?_cons_zero,List.getElem?_cons_succ]at q1_2_0 q1_2_1 q1_2_2 q1_2_3
 have f1_2:=aY r1_2;clear hb1
 go_wp2_with fail
 refine(nO x.b _).mono ?_;rintro e w2 ⟨rfl,hb2⟩;have z2:w.heap.size+2<w2.heap.size:=by have:=hb2.size;simp at this;omega
 have B2:Below w.heap.size w w2:=Below.trans ((B1.setCell (by simp<;>omega) _).setCell (by simp<;>omega) _) (hb2.mono (by simp<;>omega));have g2:jZ (w.heap.size+3) w1 w2:=jZ.below (((jZ.refl (w.heap.size+3) _).setCell (by simp<;>omega) _).setCell (by simp<;>omega) _) hb2;have r2_0:=(hb2.block w.heap.size (by simp<;>omega)).trans ((Below.heap_setCell _ _ _ _ (by simp<;>omega)).trans ((Below.heap_setCell _ _ _ _ (by simp<;>omega)).trans r1_0));have r2_1:=(hb2.block (w.heap.size+1) (by simp<;>omega)).trans ((Below.heap_setCell _ _ _ _ (by simp<;>omega)).trans ((Below.heap_setCell _ _ _ _ (by simp<;>omega)).trans r1_1))
 have r2_2:=(hb2.block (w.heap.size+1+1) (by simp<;>omega)).trans (Rows.bL (Rows.bL r1_2));simp only[List.setIfInBounds_toArray,List.set_cons_zero,List.set_cons_succ]at r2_2;have q2_0_0:=cell_of_row _ _ 0 _ _ _ r2_0;have q2_0_1:=cell_of_row _ _ 1 _ _ _ r2_0;have q2_0_2:=cell_of_row _ _ 2 _ _ _ r2_0;have q2_0_3:=cell_of_row _ _ 3 _ _ _ r2_0;simp only[List.getElem?_toArray,List.getElem?_cons_zero,List.getElem?_cons_succ]at q2_0_0 q2_0_1 q2_0_2 q2_0_3;have f2_0:=aY r2_0;have q2_1_0:=cell_of_row _ _ 0 _ _ _ r2_1;have q2_1_1:=cell_of_row _ _ 1 _ _ _ r2_1
 have q2_1_2:=cell_of_row _ _ 2 _ _ _ r2_1;have q2_1_3:=cell_of_row _ _ 3 _ _ _ r2_1;simp only[List.getElem?_toArray,List.getElem?_cons_zero,List.getElem?_cons_succ]at q2_1_0 q2_1_1 q2_1_2 q2_1_3;have f2_1:=aY r2_1;have q2_2_0:=cell_of_row _ _ 0 _ _ _ r2_2;have q2_2_1:=cell_of_row _ _ 1 _ _ _ r2_2;have q2_2_2:=cell_of_row _ _ 2 _ _ _ r2_2;have q2_2_3:=cell_of_row _ _ 3 _ _ _ r2_2;simp only[List.getElem?_toArray,List.getElem?_cons_zero,List.getElem?_cons_succ]at q2_2_0 q2_2_1 q2_2_2 q2_2_3;have f2_2:=aY r2_2;clear r1_0 f1_0 q1_0_0 q1_0_1 q1_0_2 q1_0_3 r1_1 f1_1 q1_1_0 q1_1_1 q1_1_2 q1_1_3 r1_2 f1_2 q1_2_0 q1_2_1 q1_2_2 q1_2_3
 clear hb2
 go_wp2_with fail
 refine bodyPost_ret (v:=.agg #[.int .i64 x.a.tag,.int .i64 x.a.at_,.int .i64 x.b.tag,.int .i64 x.b.at_]) (by simp[results,Tryz.results122,go_sem,q2_1_0,q2_1_1,q2_1_2,q2_1_3]) rfl ⟨rfl,?_⟩
 repeat (refine Below.setCell ?_ (by simp<;>omega) _)
 exact B2
theorem Dc(xs:List aS){A:Option Addr}{c:Nat}{b1}(w:World)(hx:T1 w (.sl xs.length (xs.flatMap aS.enc)) b1 (.slice A xs.length c))(hs:xs.length≤1048576∧∀y∈xs,aS.small y):
  Calls Tryz.prog 80 #[.slice A xs.length c] w fun e w'=>∃A' c' bs,e=.returned (.slice A' xs.length c')∧Below w.heap.size w w'∧T1 w' (.sl xs.length (xs.flatMap aS.enc)) bs (.slice A' xs.length c')∧Own w.heap.size w' bs:=by
 have hs1:=Lib.hid hs;have hn':xs.length≤1048576:=hs.1;clear hs;have hn:Hid (xs.length=xs.length):=rfl;generalize hl:xs.length=n at hx hn' hn ⊢
 replace hn:Hid (xs.length=n):=hl
 clear hl;obtain⟨M,hms,hmk,hsz'⟩:=jT (P:=Tryz.prog) (t:=75) (e:=99) (s:=4) (by kernel_rfl) Tryz.underlying75 hn';have hsz:=hsz';have Hms:=Lib.hid hms;clear hsz' hms
 go_enter Tryz.func80,Tryz.ntmps80
 go_wp2_with fail
 go_loopw [4] (fun i w'=>∃k:Nat,k≤n∧i=.int .i64 k∧Below w.heap.size w w'∧∃bs us,eU w' w.heap.size 99 n 4 us∧us.length=k*4∧TN w' ((xs.take k).flatMap aS.enc) bs us∧Own (w.heap.size+1) w' bs) (fun i _=>n-(intOf i).toNat)
 case atStart=>exact⟨0,by omega,rfl,(Below.refl _ _).alloc (Nat.le_refl _) _,[],[],eU.new _ _ 99 n 4 Hms.out,by simp,by simpa using TN.done,Own.nil _ _⟩
 case round=>
  obtain⟨k,hk,rfl,hb,bs,us,hrow,hul,ht,ho⟩:=hrel
  by_cases hlt:k<n
  ·obtain⟨ba,oa,x,rfl,hba,hxk,x0,x1,x2,x3⟩:=aS.iT (hx.below hb) hn.out hlt;have hul':=Lib.hid hul;clear hul
   go_wp2_with fail
   refine(Eo x _).mono ?_;rintro e w1 ⟨rfl,hb1⟩;have hT:=TN.append.2 ⟨bs,[],us,_,rfl,rfl,ht.below hb1,aS.kK (w:=w1) (x:=x)⟩
   go_wp2_with (refine eY rfl 99 (.tmp 21) (.tmp 20) rfl w.heap.size 99 n 4 k us (.agg #[.int .i64 x.a.tag,.int .i64 x.a.at_,.int .i64 x.b.tag,.int .i64 x.b.at_]) rfl rfl (hrow.below hb1) hul'.out hlt hsz.h rfl rfl ?_;intro w2 hr2 hb2 hs2 ho2)
   have hbt:But w.heap.size w1 w2:=⟨hb2.os,hb2.tape,hb2.output,hb2.size,fun j _ hj=>ho2 j hj⟩
   go_roundw
   case rel=>exact⟨k+1,by omega,by go_num,(hb.trans (hb1.mono hb.size)).trans hb2,bs++[],_,hr2,by simp[hul'.out,Value.cells,Nat.add_mul],by rw[jP aS.enc hxk];exact hT.but hbt (by simpa using ho.mG (by omega)),by simpa using(ho.below hb1).but hbt (ho.mG (by omega))⟩
   case measure=>simp[intOf];omega
  ·have:k=n:=by omega
   subst this
   go_wp2_with fail
   go_ret;rw[List.take_of_length_le (by rw[hn.out];exact Nat.le_refl _)]at ht;rcases Nat.eq_zero_or_pos k with h0|h0
   ·subst h0;have:xs=[]:=List.eq_nil_of_length_eq_zero hn.out;subst this;exact⟨_,_,[],rfl,hb,T1.empty _,Own.nil _ _⟩
   ·obtain⟨cur,t',hg⟩:=hrow.own;exact⟨_,_,w.heap.size::bs,rfl,hb,T1.qH hrow h0 (by unfold maxLen;omega) ht,Own.cons hg (Nat.le_refl _) ho⟩
theorem Ba(x:aA){b us}(w:World)(hx:TN w x.enc b us)(hs:x.small):
  Calls Tryz.prog 42 #[.agg us.toArray] w fun e w'=>∃vs bs,e=.returned (.agg vs.toArray)∧Below w.heap.size w w'∧TN w' x.enc bs vs∧Own w.heap.size w' bs:=by
 obtain⟨Ax2,cx2,bx2,Ax3,cx3,bx3,Ax4,cx4,bx4,rfl,rfl,tx2,lx2,mx2,tx3,lx3,mx3,tx4,lx4,mx4⟩:=aA.us hx;obtain⟨s2,s3,s4⟩:=hs
 go_enter Tryz.func42,Tryz.ntmps42
 have B0:∀S Z O,Below w.heap.size w (((w.alloc S).alloc Z).alloc O):=fun _ _ _=>(((Below.refl _ _).alloc (Nat.le_refl _) _).alloc (by simp) _).alloc (by simp;omega) _
 go_wp2_with fail
 refine(uM x.redexes _ (tx2.below (B0 _ _ _)) s2).mono ?_;rintro e w1 ⟨A1,a1,d1,rfl,hb1,y1,o1⟩;have z1:w.heap.size+2<w1.heap.size:=by have:=hb1.size;simp at this;omega
 have B1:Below w.heap.size w w1:=Below.trans (B0 _ _ _) (hb1.mono (by simp<;>omega))
 replace o1:Own (w.heap.size+3) w1 d1:=by simpa using o1
 have r1_0:=(hb1.block w.heap.size (by simp<;>omega)).trans (lG w _ _ _).1;have r1_1:=(hb1.block (w.heap.size+1) (by simp<;>omega)).trans (lG w _ _ _).2.1;have r1_2:=(hb1.block (w.heap.size+1+1) (by simp<;>omega)).trans (lG w _ _ _).2.2;have q1_0_0:=cell_of_row _ _ 0 _ _ _ r1_0;have q1_0_1:=cell_of_row _ _ 1 _ _ _ r1_0;have q1_0_2:=cell_of_row _ _ 2 _ _ _ r1_0;have q1_0_3:=cell_of_row _ _ 3 _ _ _ r1_0;have q1_0_4:=cell_of_row _ _ 4 _ _ _ r1_0;simp only[List.getElem?_toArray,List.getElem?_cons_zero,List.getElem?_cons_succ]at q1_0_0 q1_0_1 q1_0_2 q1_0_3 q1_0_4
 have f1_0:=aY r1_0;have q1_1_0:=cell_of_row _ _ 0 _ _ _ r1_1;have q1_1_1:=cell_of_row _ _ 1 _ _ _ r1_1;have q1_1_2:=cell_of_row _ _ 2 _ _ _ r1_1;have q1_1_3:=cell_of_row _ _ 3 _ _ _ r1_1;have q1_1_4:=cell_of_row _ _ 4 _ _ _ r1_1;simp only[List.getElem?_toArray,List.getElem?_cons_zero,List.getElem?_cons_succ]at q1_1_0 q1_1_1 q1_1_2 q1_1_3 q1_1_4;have f1_1:=aY r1_1;have q1_2_0:=cell_of_row _ _ 0 _ _ _ r1_2;have q1_2_1:=cell_of_row _ _ 1 _ _ _ r1_2;have q1_2_2:=cell_of_row _ _ 2 _ _ _ r1_2;have q1_2_3:=cell_of_row _ _ 3 _ _ _ r1_2;have q1_2_4:=cell_of_row _ _ 4 _ _ _ r1_2
 simp only[List.getElem?_toArray,List.getElem?_cons_zero,List.getElem?_cons_succ]at q1_2_0 q1_2_1 q1_2_2 q1_2_3 q1_2_4;have f1_2:=aY r1_2;clear hb1
 go_wp2_with fail
 refine(Dc x.links _ (tx3.below (B1.setCell (by simp<;>omega) _)) s3).mono ?_;rintro e w2 ⟨A2,a2,d2,rfl,hb2,y2,o2⟩;have z2:w.heap.size+2<w2.heap.size:=by have:=hb2.size;simp at this;omega
 have B2:Below w.heap.size w w2:=Below.trans (B1.setCell (by simp<;>omega) _) (hb2.mono (by simp<;>omega));have g2:jZ (w.heap.size+3) w1 w2:=jZ.below ((jZ.refl (w.heap.size+3) _).setCell (by simp<;>omega) _) hb2
 replace o2:Own w1.heap.size w2 d2:=by simpa using o2
 have r2_0:=(hb2.block w.heap.size (by simp<;>omega)).trans ((Below.heap_setCell _ _ _ _ (by simp<;>omega)).trans r1_0);have r2_1:=(hb2.block (w.heap.size+1) (by simp<;>omega)).trans ((Below.heap_setCell _ _ _ _ (by simp<;>omega)).trans r1_1);have r2_2:=(hb2.block (w.heap.size+1+1) (by simp<;>omega)).trans (Rows.bL r1_2);simp only[List.setIfInBounds_toArray,List.set_cons_zero,List.set_cons_succ]at r2_2;have q2_0_0:=cell_of_row _ _ 0 _ _ _ r2_0;have q2_0_1:=cell_of_row _ _ 1 _ _ _ r2_0;have q2_0_2:=cell_of_row _ _ 2 _ _ _ r2_0;have q2_0_3:=cell_of_row _ _ 3 _ _ _ r2_0
 have q2_0_4:=cell_of_row _ _ 4 _ _ _ r2_0;simp only[List.getElem?_toArray,List.getElem?_cons_zero,List.getElem?_cons_succ]at q2_0_0 q2_0_1 q2_0_2 q2_0_3 q2_0_4;have f2_0:=aY r2_0;have q2_1_0:=cell_of_row _ _ 0 _ _ _ r2_1;have q2_1_1:=cell_of_row _ _ 1 _ _ _ r2_1;have q2_1_2:=cell_of_row _ _ 2 _ _ _ r2_1;have q2_1_3:=cell_of_row _ _ 3 _ _ _ r2_1;have q2_1_4:=cell_of_row _ _ 4 _ _ _ r2_1;simp only[List.getElem?_toArray,List.getElem?_cons_zero,List.getElem?_cons_succ]at q2_1_0 q2_1_1 q2_1_2 q2_1_3 q2_1_4;have f2_1:=aY r2_1;have q2_2_0:=cell_of_row _ _ 0 _ _ _ r2_2
 have q2_2_1:=cell_of_row _ _ 1 _ _ _ r2_2;have q2_2_2:=cell_of_row _ _ 2 _ _ _ r2_2;have q2_2_3:=cell_of_row _ _ 3 _ _ _ r2_2;have q2_2_4:=cell_of_row _ _ 4 _ _ _ r2_2;simp only[List.getElem?_toArray,List.getElem?_cons_zero,List.getElem?_cons_succ]at q2_2_0 q2_2_1 q2_2_2 q2_2_3 q2_2_4;have f2_2:=aY r2_2;clear r1_0 f1_0 q1_0_0 q1_0_1 q1_0_2 q1_0_3 q1_0_4 r1_1 f1_1 q1_1_0 q1_1_1 q1_1_2 q1_1_3 q1_1_4 r1_2 f1_2 q1_2_0 q1_2_1 q1_2_2 q1_2_3 q1_2_4;clear hb2
 go_wp2_with fail
 refine(sF x.counts _ (tx4.below (B2.setCell (by simp<;>omega) _)) s4).mono ?_;rintro e w3 ⟨A3,a3,d3,rfl,hb3,y3,o3⟩;have z3:w.heap.size+2<w3.heap.size:=by have:=hb3.size;simp at this;omega
 have B3:Below w.heap.size w w3:=Below.trans (B2.setCell (by simp<;>omega) _) (hb3.mono (by simp<;>omega));have g3:jZ (w.heap.size+3) w2 w3:=jZ.below ((jZ.refl (w.heap.size+3) _).setCell (by simp<;>omega) _) hb3
 replace o3:Own w2.heap.size w3 d3:=by simpa using o3
 have r3_0:=(hb3.block w.heap.size (by simp<;>omega)).trans ((Below.heap_setCell _ _ _ _ (by simp<;>omega)).trans r2_0);have r3_1:=(hb3.block (w.heap.size+1) (by simp<;>omega)).trans ((Below.heap_setCell _ _ _ _ (by simp<;>omega)).trans r2_1);have r3_2:=(hb3.block (w.heap.size+1+1) (by simp<;>omega)).trans (Rows.bL r2_2);simp only[List.setIfInBounds_toArray,List.set_cons_zero,List.set_cons_succ]at r3_2;have q3_0_0:=cell_of_row _ _ 0 _ _ _ r3_0;have q3_0_1:=cell_of_row _ _ 1 _ _ _ r3_0;have q3_0_2:=cell_of_row _ _ 2 _ _ _ r3_0;have q3_0_3:=cell_of_row _ _ 3 _ _ _ r3_0
 have q3_0_4:=cell_of_row _ _ 4 _ _ _ r3_0;simp only[List.getElem?_toArray,List.getElem?_cons_zero,List.getElem?_cons_succ]at q3_0_0 q3_0_1 q3_0_2 q3_0_3 q3_0_4;have f3_0:=aY r3_0;have q3_1_0:=cell_of_row _ _ 0 _ _ _ r3_1;have q3_1_1:=cell_of_row _ _ 1 _ _ _ r3_1;have q3_1_2:=cell_of_row _ _ 2 _ _ _ r3_1;have q3_1_3:=cell_of_row _ _ 3 _ _ _ r3_1;have q3_1_4:=cell_of_row _ _ 4 _ _ _ r3_1;simp only[List.getElem?_toArray,List.getElem?_cons_zero,List.getElem?_cons_succ]at q3_1_0 q3_1_1 q3_1_2 q3_1_3 q3_1_4;have f3_1:=aY r3_1;have q3_2_0:=cell_of_row _ _ 0 _ _ _ r3_2
 have q3_2_1:=cell_of_row _ _ 1 _ _ _ r3_2;have q3_2_2:=cell_of_row _ _ 2 _ _ _ r3_2;have q3_2_3:=cell_of_row _ _ 3 _ _ _ r3_2;have q3_2_4:=cell_of_row _ _ 4 _ _ _ r3_2;simp only[List.getElem?_toArray,List.getElem?_cons_zero,List.getElem?_cons_succ]at q3_2_0 q3_2_1 q3_2_2 q3_2_3 q3_2_4;have f3_2:=aY r3_2;clear r2_0 f2_0 q2_0_0 q2_0_1 q2_0_2 q2_0_3 q2_0_4 r2_1 f2_1 q2_1_0 q2_1_1 q2_1_2 q2_1_3 q2_1_4 r2_2 f2_2 q2_2_0 q2_2_1 q2_2_2 q2_2_3 q2_2_4;clear hb3
 go_wp2_with fail
 have HG:∀W',jZ (w.heap.size+3) w3 W'→TN W' x.enc (d1++d2++d3) [.int .i64 x.phase,.int .i64 x.victim,.slice A1 x.redexes.length a1,.slice A2 x.links.length a2,.slice A3 x.counts.length a3]∧Own w.heap.size W' (d1++d2++d3):=by
  intro W' hW;have k3:=hW;have k2:=g3.trans k3;have k1:=g2.trans k2;have s_1:w1.heap.size≤w2.heap.size:=g2.1;have s_2:w2.heap.size≤w3.heap.size:=g3.1;have ht:=aA.kK (w:=W') (x:=x) (y1.xY k1 o1.ge) (y2.xY k2 (fun b hb=>Nat.le_trans (by omega) (o2.ge b hb))) (y3.xY k3 (fun b hb=>Nat.le_trans (by omega) (o3.ge b hb)));have p1:Own w.heap.size W' d1:=(o1.xY k1 (by omega)).mono (by omega);have l1:∀b∈d1,b<w1.heap.size:=o1.lt;have p2:Own w.heap.size W' (d1++d2):=Own.append p1 (fun b hb=>Nat.lt_of_lt_of_le (l1 b hb) (by omega)) (o2.xY k2 (by omega)) (by omega)
  have l2:∀b∈d1++d2,b<w2.heap.size:=fun b hb=>(List.mem_append.1 hb).elim (fun h=>Nat.lt_of_lt_of_le (l1 b h) (by omega)) (o2.lt b)
  have p3:Own w.heap.size W' (d1++d2++d3):=Own.append p2 (fun b hb=>Nat.lt_of_lt_of_le (l2 b hb) (by omega)) (o3.xY k3 (by omega)) (by omega);have l3:∀b∈d1++d2++d3,b<w3.heap.size:=fun b hb=>(List.mem_append.1 hb).elim (fun h=>Nat.lt_of_lt_of_le (l2 b h) (by omega)) (o3.lt b)
  exact⟨by simpa[List.append_assoc]using ht,p3⟩
 refine bodyPost_ret (v:=.agg #[.int .i64 x.phase,.int .i64 x.victim,.slice A1 x.redexes.length a1,.slice A2 x.links.length a2,.slice A3 x.counts.length a3]) (by simp[results,Tryz.results42,go_sem,q3_1_0,q3_1_1,q3_1_2,q3_1_3,q3_1_4]) rfl ?_;refine⟨_,_,rfl,?_,HG _ ?_⟩
 ·repeat (refine Below.setCell ?_ (by simp<;>omega) _)
  exact B3
 ·repeat (refine jZ.setCell ?_ (by simp<;>omega) _)
  exact jZ.refl _ _
theorem yN(xs:List aA){A:Option Addr}{c:Nat}{b1}(w:World)(hx:T1 w (.sl xs.length (xs.flatMap aA.enc)) b1 (.slice A xs.length c))(hs:xs.length≤1048576∧∀y∈xs,aA.small y):
  Calls Tryz.prog 18 #[.slice A xs.length c] w fun e w'=>∃A' c' bs,e=.returned (.slice A' xs.length c')∧Below w.heap.size w w'∧T1 w' (.sl xs.length (xs.flatMap aA.enc)) bs (.slice A' xs.length c')∧Own w.heap.size w' bs:=by
 have hs1:=Lib.hid hs;have hn':xs.length≤1048576:=hs.1;clear hs;have hn:Hid (xs.length=xs.length):=rfl;generalize hl:xs.length=n at hx hn' hn ⊢
 replace hn:Hid (xs.length=n):=hl
 clear hl;obtain⟨M,hms,hmk,hsz'⟩:=jT (P:=Tryz.prog) (t:=42) (e:=77) (s:=5) (by kernel_rfl) Tryz.underlying42 hn';have hsz:=hsz';have Hms:=Lib.hid hms;clear hsz' hms
 go_enter Tryz.func18,Tryz.ntmps18
 go_wp2_with fail
 go_loopw [4] (fun i w'=>∃k:Nat,k≤n∧i=.int .i64 k∧Below w.heap.size w w'∧∃bs us,eU w' w.heap.size 77 n 5 us∧us.length=k*5∧TN w' ((xs.take k).flatMap aA.enc) bs us∧Own (w.heap.size+1) w' bs) (fun i _=>n-(intOf i).toNat)
 case atStart=>exact⟨0,by omega,rfl,(Below.refl _ _).alloc (Nat.le_refl _) _,[],[],eU.new _ _ 77 n 5 Hms.out,by simp,by simpa using TN.done,Own.nil _ _⟩
 case round=>
  obtain⟨k,hk,rfl,hb,bs,us,hrow,hul,ht,ho⟩:=hrel
  by_cases hlt:k<n
  ·obtain⟨ba,oa,x,Ax2,cx2,px2,Ax3,cx3,px3,Ax4,cx4,px4,rfl,hba,hxk,x0,x1,x2,x3,x4,tx2,lx2,mx2,tx3,lx3,mx3,tx4,lx4,mx4⟩:=aA.iT (hx.below hb) hn.out hlt;have nx:=aA.kK (w:=wr) (x:=x) tx2 tx3 tx4;have hul':=Lib.hid hul;clear hul
   go_wp2_with fail
   refine(Ba x _ nx (hs1.out.2 x (List.mem_of_getElem? hxk.out))).mono ?_;rintro e w1 ⟨vs,ds,rfl,hb1,hy,oy⟩;have hvl:vs.toArray.size=5:=by have:=hy.length;simpa[aA.enc]using this
   have hv1:vs.all (·.oneCell')=true:=hy.yG;have hT:=TN.append.2 ⟨bs,_,us,vs,rfl,rfl,ht.below hb1,hy⟩;have hO:Own (w.heap.size+1) w1 (bs++ds):=Own.append (ho.below hb1) ho.lt oy (by have:=hrow.lt;omega)
   go_wp2_with (refine eY rfl 77 (.tmp 21) (.tmp 20) rfl w.heap.size 77 n 5 k us (.agg vs.toArray) (by first|rfl|(rw[Nat.mul_one];rfl)) rfl (hrow.below hb1) hul'.out hlt hsz.h hvl (by simpa[Value.cells]using hv1) ?_;intro w2 hr2 hb2 hs2 ho2)
   have hbt:But w.heap.size w1 w2:=⟨hb2.os,hb2.tape,hb2.output,hb2.size,fun j _ hj=>ho2 j hj⟩
   go_roundw
   case rel=>exact⟨k+1,by omega,by go_num,(hb.trans (hb1.mono hb.size)).trans hb2,_,_,hr2,by have:=hvl;simp[hul'.out,Value.cells,Nat.add_mul]at this ⊢;omega,by rw[jP aA.enc hxk];exact hT.but hbt (hO.mG (by omega)),hO.but hbt (hO.mG (by omega))⟩
   case measure=>simp[intOf];omega
  ·have:k=n:=by omega
   subst this
   go_wp2_with fail
   go_ret;rw[List.take_of_length_le (by rw[hn.out];exact Nat.le_refl _)]at ht;rcases Nat.eq_zero_or_pos k with h0|h0
   ·subst h0;have:xs=[]:=List.eq_nil_of_length_eq_zero hn.out;subst this;exact⟨_,_,[],rfl,hb,T1.empty _,Own.nil _ _⟩
   ·obtain⟨cur,t',hg⟩:=hrow.own;exact⟨_,_,w.heap.size::bs,rfl,hb,T1.qH hrow h0 (by unfold maxLen;omega) ht,Own.cons hg (Nat.le_refl _) ho⟩
theorem nN(x:bP){b us}(w:World)(hx:TN w x.enc b us)(hs:x.small):
  Calls Tryz.prog 6 #[.agg us.toArray] w fun e w'=>∃vs bs,e=.returned (.agg vs.toArray)∧Below w.heap.size w w'∧TN w' x.enc bs vs∧Own w.heap.size w' bs:=by
 obtain⟨Ax0,cx0,bx0,Ax4,cx4,bx4,Ax5,cx5,bx5,rfl,rfl,tx0,lx0,mx0,tx4,lx4,mx4,tx5,lx5,mx5⟩:=bP.us hx;obtain⟨s0,s1⟩:=hs
 go_enter Tryz.func6,Tryz.ntmps6
 have B0:∀S Z O,Below w.heap.size w (((w.alloc S).alloc Z).alloc O):=fun _ _ _=>(((Below.refl _ _).alloc (Nat.le_refl _) _).alloc (by simp) _).alloc (by simp;omega) _
 go_wp2_with fail
 refine(A9 x.memory _ (bg.kK (x:=x.memory) (tx0.below (B0 _ _ _)) (tx4.below (B0 _ _ _))) s0).mono ?_;rintro e w1 ⟨vs1,d1,rfl,hb1,y1,o1⟩;obtain⟨B1_0,e1_0,f1_0,B1_4,e1_4,f1_4,rfl,hd1,z1_0,_,_,z1_4,_,_⟩:=bg.us y1;have z1:w.heap.size+2<w1.heap.size:=by have:=hb1.size;simp at this;omega
 have B1:Below w.heap.size w w1:=Below.trans (B0 _ _ _) (hb1.mono (by simp<;>omega))
 replace o1:Own (w.heap.size+3) w1 d1:=by simpa using o1
 have r1_0:=(hb1.block w.heap.size (by simp<;>omega)).trans (lG w _ _ _).1;have r1_1:=(hb1.block (w.heap.size+1) (by simp<;>omega)).trans (lG w _ _ _).2.1;have r1_2:=(hb1.block (w.heap.size+1+1) (by simp<;>omega)).trans (lG w _ _ _).2.2;have q1_0_0:=cell_of_row _ _ 0 _ _ _ r1_0;have q1_0_1:=cell_of_row _ _ 1 _ _ _ r1_0;have q1_0_2:=cell_of_row _ _ 2 _ _ _ r1_0;have q1_0_3:=cell_of_row _ _ 3 _ _ _ r1_0;have q1_0_4:=cell_of_row _ _ 4 _ _ _ r1_0;have q1_0_5:=cell_of_row _ _ 5 _ _ _ r1_0;have q1_0_6:=cell_of_row _ _ 6 _ _ _ r1_0;simp only[List.getElem?_toArray,List.getElem?_cons_zero,List.getElem?_cons_succ]at q1_0_0 q1_0_1 q1_0_2 q1_0_3 q1_0_4 q1_0_5 q1_0_6
 have f1_0:=aY r1_0;have q1_1_0:=cell_of_row _ _ 0 _ _ _ r1_1;have q1_1_1:=cell_of_row _ _ 1 _ _ _ r1_1;have q1_1_2:=cell_of_row _ _ 2 _ _ _ r1_1;have q1_1_3:=cell_of_row _ _ 3 _ _ _ r1_1;have q1_1_4:=cell_of_row _ _ 4 _ _ _ r1_1;have q1_1_5:=cell_of_row _ _ 5 _ _ _ r1_1;have q1_1_6:=cell_of_row _ _ 6 _ _ _ r1_1;simp only[List.getElem?_toArray,List.getElem?_cons_zero,List.getElem?_cons_succ]at q1_1_0 q1_1_1 q1_1_2 q1_1_3 q1_1_4 q1_1_5 q1_1_6;have f1_1:=aY r1_1;have q1_2_0:=cell_of_row _ _ 0 _ _ _ r1_2;have q1_2_1:=cell_of_row _ _ 1 _ _ _ r1_2;have q1_2_2:=cell_of_row _ _ 2 _ _ _ r1_2
 have q1_2_3:=cell_of_row _ _ 3 _ _ _ r1_2;have q1_2_4:=cell_of_row _ _ 4 _ _ _ r1_2;have q1_2_5:=cell_of_row _ _ 5 _ _ _ r1_2;have q1_2_6:=cell_of_row _ _ 6 _ _ _ r1_2;simp only[List.getElem?_toArray,List.getElem?_cons_zero,List.getElem?_cons_succ]at q1_2_0 q1_2_1 q1_2_2 q1_2_3 q1_2_4 q1_2_5 q1_2_6;have f1_2:=aY r1_2;clear hb1
 go_wp2_with fail
 refine(yN x.workers _ (tx5.below (((((B1.setCell (by simp<;>omega) _).setCell (by simp<;>omega) _).setCell (by simp<;>omega) _).setCell (by simp<;>omega) _).setCell (by simp<;>omega) _)) s1).mono ?_;rintro e w2 ⟨A2,a2,d2,rfl,hb2,y2,o2⟩;have z2:w.heap.size+2<w2.heap.size:=by have:=hb2.size;simp at this;omega
 have B2:Below w.heap.size w w2:=Below.trans (((((B1.setCell (by simp<;>omega) _).setCell (by simp<;>omega) _).setCell (by simp<;>omega) _).setCell (by simp<;>omega) _).setCell (by simp<;>omega) _) (hb2.mono (by simp<;>omega));have g2:jZ (w.heap.size+3) w1 w2:=jZ.below ((((((jZ.refl (w.heap.size+3) _).setCell (by simp<;>omega) _).setCell (by simp<;>omega) _).setCell (by simp<;>omega) _).setCell (by simp<;>omega) _).setCell (by simp<;>omega) _) hb2
 replace o2:Own w1.heap.size w2 d2:=by simpa using o2
 have r2_0:=(hb2.block w.heap.size (by simp<;>omega)).trans ((Below.heap_setCell _ _ _ _ (by simp<;>omega)).trans ((Below.heap_setCell _ _ _ _ (by simp<;>omega)).trans ((Below.heap_setCell _ _ _ _ (by simp<;>omega)).trans ((Below.heap_setCell _ _ _ _ (by simp<;>omega)).trans ((Below.heap_setCell _ _ _ _ (by simp<;>omega)).trans r1_0)))));have r2_1:=(hb2.block (w.heap.size+1) (by simp<;>omega)).trans ((Below.heap_setCell _ _ _ _ (by simp<;>omega)).trans ((Below.heap_setCell _ _ _ _ (by simp<;>omega)).trans ((Below.heap_setCell _ _ _ _ (by simp<;>omega)).trans ((Below.heap_setCell _ _ _ _ (by simp<;>omega)).trans ((Below.heap_setCell _ _ _ _ (by simp<;>omega)).trans r1_1)))))
 have r2_2:=(hb2.block (w.heap.size+1+1) (by simp<;>omega)).trans (Rows.bL (Rows.bL (Rows.bL (Rows.bL (Rows.bL r1_2)))));simp only[List.setIfInBounds_toArray,List.set_cons_zero,List.set_cons_succ]at r2_2;have q2_0_0:=cell_of_row _ _ 0 _ _ _ r2_0;have q2_0_1:=cell_of_row _ _ 1 _ _ _ r2_0;have q2_0_2:=cell_of_row _ _ 2 _ _ _ r2_0;have q2_0_3:=cell_of_row _ _ 3 _ _ _ r2_0;have q2_0_4:=cell_of_row _ _ 4 _ _ _ r2_0;have q2_0_5:=cell_of_row _ _ 5 _ _ _ r2_0;have q2_0_6:=cell_of_row _ _ 6 _ _ _ r2_0;simp only[List.getElem?_toArray,List.getElem?_cons_zero,List.getElem?_cons_succ]at q2_0_0 q2_0_1 q2_0_2 q2_0_3 q2_0_4 q2_0_5 q2_0_6
 have f2_0:=aY r2_0;have q2_1_0:=cell_of_row _ _ 0 _ _ _ r2_1;have q2_1_1:=cell_of_row _ _ 1 _ _ _ r2_1;have q2_1_2:=cell_of_row _ _ 2 _ _ _ r2_1;have q2_1_3:=cell_of_row _ _ 3 _ _ _ r2_1;have q2_1_4:=cell_of_row _ _ 4 _ _ _ r2_1;have q2_1_5:=cell_of_row _ _ 5 _ _ _ r2_1;have q2_1_6:=cell_of_row _ _ 6 _ _ _ r2_1;simp only[List.getElem?_toArray,List.getElem?_cons_zero,List.getElem?_cons_succ]at q2_1_0 q2_1_1 q2_1_2 q2_1_3 q2_1_4 q2_1_5 q2_1_6;have f2_1:=aY r2_1;have q2_2_0:=cell_of_row _ _ 0 _ _ _ r2_2;have q2_2_1:=cell_of_row _ _ 1 _ _ _ r2_2;have q2_2_2:=cell_of_row _ _ 2 _ _ _ r2_2
 have q2_2_3:=cell_of_row _ _ 3 _ _ _ r2_2;have q2_2_4:=cell_of_row _ _ 4 _ _ _ r2_2;have q2_2_5:=cell_of_row _ _ 5 _ _ _ r2_2;have q2_2_6:=cell_of_row _ _ 6 _ _ _ r2_2;simp only[List.getElem?_toArray,List.getElem?_cons_zero,List.getElem?_cons_succ]at q2_2_0 q2_2_1 q2_2_2 q2_2_3 q2_2_4 q2_2_5 q2_2_6;have f2_2:=aY r2_2;clear r1_0 f1_0 q1_0_0 q1_0_1 q1_0_2 q1_0_3 q1_0_4 q1_0_5 q1_0_6 r1_1 f1_1 q1_1_0 q1_1_1 q1_1_2 q1_1_3 q1_1_4 q1_1_5 q1_1_6 r1_2 f1_2 q1_2_0 q1_2_1 q1_2_2 q1_2_3 q1_2_4 q1_2_5 q1_2_6;clear hb2
 go_wp2_with fail
 have HG:∀W',jZ (w.heap.size+3) w2 W'→TN W' x.enc (d1++d2) [.slice B1_0 x.memory.cells.length e1_0,.int .i64 x.memory.free,.int .i64 x.memory.root.tag,.int .i64 x.memory.root.at_,.slice B1_4 x.memory.redexes.length e1_4,.slice A2 x.workers.length a2,.int .i64 x.active]∧Own w.heap.size W' (d1++d2):=by
  intro W' hW;have k2:=hW;have k1:=g2.trans k2;have s_1:w1.heap.size≤w2.heap.size:=g2.1;have ht:=bP.kK (w:=W') (x:=x) (z1_0.xY k1 (fun b hb=>(o1.ge b (by rw[hd1];simp[hb])))) (z1_4.xY k1 (fun b hb=>(o1.ge b (by rw[hd1];simp[hb])))) (y2.xY k2 (fun b hb=>Nat.le_trans (by omega) (o2.ge b hb)));have p1:Own w.heap.size W' d1:=(o1.xY k1 (by omega)).mono (by omega);have l1:∀b∈d1,b<w1.heap.size:=o1.lt;have p2:Own w.heap.size W' (d1++d2):=Own.append p1 (fun b hb=>Nat.lt_of_lt_of_le (l1 b hb) (by omega)) (o2.xY k2 (by omega)) (by omega);have l2:∀b∈d1++d2,b<w2.heap.size:=fun b hb=>(List.mem_append.1 hb).elim (fun h=>Nat.lt_of_lt_of_le (l1 b h) (by omega)) (o2.lt b)
  exact⟨by simpa[hd1,List.append_assoc]using ht,p2⟩
 refine bodyPost_ret (v:=.agg #[.slice B1_0 x.memory.cells.length e1_0,.int .i64 x.memory.free,.int .i64 x.memory.root.tag,.int .i64 x.memory.root.at_,.slice B1_4 x.memory.redexes.length e1_4,.slice A2 x.workers.length a2,.int .i64 x.active]) (by simp[results,Tryz.results6,go_sem,q2_1_0,q2_1_1,q2_1_2,q2_1_3,q2_1_4,q2_1_5,q2_1_6]) rfl ?_;refine⟨_,_,rfl,?_,HG _ ?_⟩
 ·repeat (refine Below.setCell ?_ (by simp<;>omega) _)
  exact B2
 ·repeat (refine jZ.setCell ?_ (by simp<;>omega) _)
  exact jZ.refl _ _
end Go.Proofs.YtgiceoidjipgmaaGreat
