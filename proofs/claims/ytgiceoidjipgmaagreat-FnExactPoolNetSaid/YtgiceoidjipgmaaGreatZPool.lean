
/- Sizes of these types. Printed by gen_fam.py. -/
import Derived.Test.YtgiceoidjipgmaaGreatProg
import Derived.Test.YtgiceoidjipgmaaGreatDPool
set_option maxHeartbeats 1000000
set_option linter.unusedSimpArgs false
set_option linter.unusedVariables false
namespace Go.Proofs.YtgiceoidjipgmaaGreat
open Go Go.RowKit Go.Proofs Go.Tr
theorem sD(xs:List Int)(L:Int){A:Option Addr}{c:Nat}{b1}(w:World)(hx:T1 w (.sl xs.length (xs.flatMap aP)) b1 (.slice A xs.length c))(hn':xs.length≤maxLen)(hL0:0≤L)(hL1:L≤1048576):
  Calls Tryz.prog 66 #[.slice A xs.length c,.int .i64 L] w (lT L (xs.length≤1048576) (jw (fun _=>0) xs) w):=by
 unfold maxLen at hn'
 by_cases hneg:L-(xs.length:Int)<0
 ·generalize xs.length=n at*;clear hx
  go_enter Tryz.func66,Tryz.ntmps66
  go_wp2_with fail
  go_ret;exact⟨Below.refl _ _,_,rfl,.inl rfl⟩
 ·have HS:Hid (xs.length≤1048576):=Lib.hid (by omega);obtain⟨n,hn⟩:∃n,xs.length=n:=⟨_,rfl⟩;rw[hn]at hx hneg hn' ⊢;have Hn:=Lib.hid hn;clear hx hn
  go_enter Tryz.func66,Tryz.ntmps66
  go_wp2_with fail
  go_ret;exact⟨Below.refl _ _,_,rfl,.inr ⟨by omega,by rw[sJ,Hn.out],by rw[←Hn.out];exact HS.out⟩⟩
theorem CX(xs:List aN)(L:Int){A:Option Addr}{c:Nat}{b1}(w:World)(hx:T1 w (.sl xs.length (xs.flatMap aN.enc)) b1 (.slice A xs.length c))(hn':xs.length≤maxLen)(hL0:0≤L)(hL1:L≤1048576):
  Calls Tryz.prog 113 #[.slice A xs.length c,.int .i64 L] w (lT L (xs.length≤1048576∧∀y∈xs,aN.small y) (jw (fun _=>0) xs) w):=by
 unfold maxLen at hn'
 by_cases hneg:L-(xs.length:Int)<0
 ·generalize xs.length=n at*;clear hx
  go_enter Tryz.func113,Tryz.ntmps113
  go_wp2_with fail
  go_ret;exact⟨Below.refl _ _,_,rfl,.inl rfl⟩
 ·have HS:Hid (xs.length≤1048576∧∀y∈xs,aN.small y):=Lib.hid ⟨by omega,fun y _=>by unfold aN.small;trivial⟩;obtain⟨n,hn⟩:∃n,xs.length=n:=⟨_,rfl⟩;rw[hn]at hx hneg hn' ⊢;have Hn:=Lib.hid hn;clear hx hn
  go_enter Tryz.func113,Tryz.ntmps113
  go_wp2_with fail
  go_ret;exact⟨Below.refl _ _,_,rfl,.inr ⟨by omega,by rw[sJ,Hn.out],by rw[←Hn.out];exact HS.out⟩⟩
theorem Ef(x:aK)(L:Int){b us}(w:World)(hx:TN w x.enc b us)(hm3:x.data.length≤maxLen)(hm4:x.words.length≤maxLen)(hL0:0≤L)(hL1:L≤1048576):
  Calls Tryz.prog 64 #[.agg us.toArray,.int .i64 L] w (lT L x.small x.wt w):=by
 obtain⟨Ax3,cx3,bx3,Ax4,cx4,bx4,rfl,rfl,tx3,lx3,mx3,tx4,lx4,mx4⟩:=aK.us hx;clear lx3 mx3 lx4 mx4 hx;have B0:∀S,Below w.heap.size w (w.alloc S):=fun _=>(Below.refl _ _).alloc (Nat.le_refl _) _
 go_enter Tryz.func64,Tryz.ntmps64
 go_wp2_with fail
 refine(sD x.data L _ (tx3.below (B0 _)) hm3 (by omega) (by omega)).mono ?_;rintro e w1 ⟨hb1,r1,rfl,h1⟩;have z1:w.heap.size<w1.heap.size:=by have:=hb1.size;(try simp at this);omega
 have B1:Below w.heap.size w w1:=Below.trans (B0 _) (hb1.mono (by first|omega|(simp;done)|(simp;omega)));have u1:=(hb1.block w.heap.size (by simp<;>omega)).trans (heap_alloc_new w _);have q1_0:=cell_of_row _ _ 0 _ _ _ u1;have q1_1:=cell_of_row _ _ 1 _ _ _ u1;have q1_2:=cell_of_row _ _ 2 _ _ _ u1;have q1_3:=cell_of_row _ _ 3 _ _ _ u1;have q1_4:=cell_of_row _ _ 4 _ _ _ u1;simp only[List.getElem?_toArray,List.getElem?_cons_zero,List.getElem?_cons_succ]at q1_0 q1_1 q1_2 q1_3 q1_4;clear hb1;rcases h1 with rfl|⟨a1,c1,s1⟩
 ·go_wp2_with fail
  go_ret;exact⟨B1,_,rfl,.inl rfl⟩
 have hd1:decide (r1<0)=false:=by simp;omega
 have S1:=Lib.hid s1;have e1:r1≤L:=by omega
 have C1:=Lib.hid c1;clear s1 c1
 go_wp2_with fail
 refine(CX x.words r1 _ (tx4.below B1) hm4 (by omega) (by omega)).mono ?_;rintro e w2 ⟨hb2,r2,rfl,h2⟩;have z2:w.heap.size<w2.heap.size:=by have:=hb2.size;(try simp at this);omega
 have B2:Below w.heap.size w w2:=Below.trans B1 (hb2.mono (by first|omega|(simp;done)|(simp;omega)));have u2:=(hb2.block w.heap.size (by omega)).trans u1;have q2_0:=cell_of_row _ _ 0 _ _ _ u2;have q2_1:=cell_of_row _ _ 1 _ _ _ u2;have q2_2:=cell_of_row _ _ 2 _ _ _ u2;have q2_3:=cell_of_row _ _ 3 _ _ _ u2;have q2_4:=cell_of_row _ _ 4 _ _ _ u2;simp only[List.getElem?_toArray,List.getElem?_cons_zero,List.getElem?_cons_succ]at q2_0 q2_1 q2_2 q2_3 q2_4;clear u1 q1_0 q1_1 q1_2 q1_3 q1_4;clear hb2;rcases h2 with rfl|⟨a2,c2,s2⟩
 ·go_wp2_with fail
  go_ret;exact⟨B2,_,rfl,.inl rfl⟩
 have hd2:decide (r2<0)=false:=by simp;omega
 have S2:=Lib.hid s2;have e2:r2≤r1:=by omega
 have C2:=Lib.hid c2;clear s2 c2
 go_wp2_with fail
 go_ret;exact⟨B2,_,rfl,.inr ⟨by omega,by unfold aK.wt;have:=C1.out;have:=C2.out;omega,⟨S1.out,S2.out⟩⟩⟩
theorem CV(xs:List aK)(L:Int){A:Option Addr}{c:Nat}{b1}(w:World)(hx:T1 w (.sl xs.length (xs.flatMap aK.enc)) b1 (.slice A xs.length c))(hn':xs.length≤maxLen)(hL0:0≤L)(hL1:L≤1048576):
  Calls Tryz.prog 28 #[.slice A xs.length c,.int .i64 L] w (lT L (xs.length≤1048576∧∀y∈xs,aK.small y) (jw aK.wt xs) w):=by
 unfold maxLen at hn'
 by_cases hneg:L-(xs.length:Int)<0
 ·generalize xs.length=n at*;clear hx
  go_enter Tryz.func28,Tryz.ntmps28
  go_wp2_with fail
  go_ret;exact⟨Below.refl _ _,_,rfl,.inl rfl⟩
 ·have hn0:xs.length≤1048576:=by omega
  obtain⟨n,hn⟩:∃n,xs.length=n:=⟨_,rfl⟩;rw[hn]at hx hneg hn' hn0 ⊢;have Hn:Hid (xs.length=n):=hn;clear hn hn'
  go_enter Tryz.func28,Tryz.ntmps28
  go_wp2_with fail
  go_loopw [1,5] (fun l i w'=>∃(r:Int) (k:Nat),l=.int .i64 r∧0≤r∧Hid (r=L-(n+((xs.take k).map aK.wt).sum:Nat))∧r≤L∧k≤n∧i=.int .i64 k∧Hid (∀y∈xs.take k,y.small)∧Below w.heap.size w w') (fun _ i _=>n-(intOf i).toNat)
  case atStart=>exact⟨_,0,rfl,by omega,Lib.hid (by simp),by omega,by omega,rfl,Lib.hid (by simp),Below.refl _ _⟩
  case round=>
   obtain⟨r,k,rfl,hr0,hrw,hr1,hk,rfl,ht,hb⟩:=hrel
   by_cases hlt:k<n
   ·obtain⟨ba,oa,x,Ax3,cx3,px3,Ax4,cx4,px4,rfl,hba,hxk,x0,x1,x2,x3,x4,tx3,lx3,mx3,tx4,lx4,mx4⟩:=aK.iT (hx.below hb) Hn.out hlt;have nx:=aK.kK (w:=wr) (x:=x) tx3 tx4
    go_wp2_with fail
    refine(Ef x r _ nx (Nat.le_trans lx3 mx3) (Nat.le_trans lx4 mx4) hr0 (by omega)).mono ?_;rintro e w1 ⟨hb1,r1,rfl,h⟩;rcases h with rfl|⟨h0,h1',h2⟩
    ·go_wp2_with fail
     go_ret;exact⟨hb.trans (hb1.mono hb.size),_,rfl,.inl rfl⟩
    ·have hd:decide (r1<0)=false:=by simp;omega
     have h1:r1≤r:=by omega
     have H1:=Lib.hid h1';clear h1';have H2:=Lib.hid h2;clear h2
     go_wp2_with fail
     go_roundw
     case rel=>exact⟨_,k+1,rfl,h0,Lib.hid (by rw[FM hxk.out,H1.out,hrw.out];omega),by omega,by omega,by go_num,Lib.hid (qh ht.out hxk.out H2.out),hb.trans (hb1.mono hb.size)⟩
     case measure=>simp[intOf];omega
   ·have:k=n:=by omega
    subst this
    go_wp2_with fail
    go_ret;have ht':=ht.out;have hrw':=hrw.out;rw[List.take_of_length_le (by rw[Hn.out];exact Nat.le_refl _)]at ht' hrw';rw[←Hn.out]at hrw';exact⟨hb,_,rfl,.inr ⟨hr0,hrw',⟨hn0,ht'⟩⟩⟩
theorem uL(xs:List aD)(L:Int){A:Option Addr}{c:Nat}{b1}(w:World)(hx:T1 w (.sl xs.length (xs.flatMap aD.enc)) b1 (.slice A xs.length c))(hn':xs.length≤maxLen)(hL0:0≤L)(hL1:L≤1048576):
  Calls Tryz.prog 29 #[.slice A xs.length c,.int .i64 L] w (lT L (xs.length≤1048576∧∀y∈xs,aD.small y) (jw (fun _=>0) xs) w):=by
 unfold maxLen at hn'
 by_cases hneg:L-(xs.length:Int)<0
 ·generalize xs.length=n at*;clear hx
  go_enter Tryz.func29,Tryz.ntmps29
  go_wp2_with fail
  go_ret;exact⟨Below.refl _ _,_,rfl,.inl rfl⟩
 ·have HS:Hid (xs.length≤1048576∧∀y∈xs,aD.small y):=Lib.hid ⟨by omega,fun y _=>by unfold aD.small;trivial⟩;obtain⟨n,hn⟩:∃n,xs.length=n:=⟨_,rfl⟩;rw[hn]at hx hneg hn' ⊢;have Hn:=Lib.hid hn;clear hx hn
  go_enter Tryz.func29,Tryz.ntmps29
  go_wp2_with fail
  go_ret;exact⟨Below.refl _ _,_,rfl,.inr ⟨by omega,by rw[sJ,Hn.out],by rw[←Hn.out];exact HS.out⟩⟩
theorem AY(x:bg)(L:Int){b us}(w:World)(hx:TN w x.enc b us)(hm0:x.cells.length≤maxLen)(hm4:x.redexes.length≤maxLen)(hL0:0≤L)(hL1:L≤1048576):
  Calls Tryz.prog 13 #[.agg us.toArray,.int .i64 L] w (lT L x.small x.wt w):=by
 obtain⟨Ax0,cx0,bx0,Ax4,cx4,bx4,rfl,rfl,tx0,lx0,mx0,tx4,lx4,mx4⟩:=bg.us hx;clear lx0 mx0 lx4 mx4 hx;have B0:∀S,Below w.heap.size w (w.alloc S):=fun _=>(Below.refl _ _).alloc (Nat.le_refl _) _
 go_enter Tryz.func13,Tryz.ntmps13
 go_wp2_with fail
 refine(CV x.cells L _ (tx0.below (B0 _)) hm0 (by omega) (by omega)).mono ?_;rintro e w1 ⟨hb1,r1,rfl,h1⟩;have z1:w.heap.size<w1.heap.size:=by have:=hb1.size;(try simp at this);omega
 have B1:Below w.heap.size w w1:=Below.trans (B0 _) (hb1.mono (by first|omega|(simp;done)|(simp;omega)));have u1:=(hb1.block w.heap.size (by simp<;>omega)).trans (heap_alloc_new w _);have q1_0:=cell_of_row _ _ 0 _ _ _ u1;have q1_1:=cell_of_row _ _ 1 _ _ _ u1;have q1_2:=cell_of_row _ _ 2 _ _ _ u1;have q1_3:=cell_of_row _ _ 3 _ _ _ u1;have q1_4:=cell_of_row _ _ 4 _ _ _ u1;simp only[List.getElem?_toArray,List.getElem?_cons_zero,List.getElem?_cons_succ]at q1_0 q1_1 q1_2 q1_3 q1_4;clear hb1;rcases h1 with rfl|⟨a1,c1,s1⟩
 ·go_wp2_with fail
  go_ret;exact⟨B1,_,rfl,.inl rfl⟩
 have hd1:decide (r1<0)=false:=by simp;omega
 have S1:=Lib.hid s1;have e1:r1≤L:=by omega
 have C1:=Lib.hid c1;clear s1 c1
 go_wp2_with fail
 refine(uL x.redexes r1 _ (tx4.below B1) hm4 (by omega) (by omega)).mono ?_;rintro e w2 ⟨hb2,r2,rfl,h2⟩;have z2:w.heap.size<w2.heap.size:=by have:=hb2.size;(try simp at this);omega
 have B2:Below w.heap.size w w2:=Below.trans B1 (hb2.mono (by first|omega|(simp;done)|(simp;omega)));have u2:=(hb2.block w.heap.size (by omega)).trans u1;have q2_0:=cell_of_row _ _ 0 _ _ _ u2;have q2_1:=cell_of_row _ _ 1 _ _ _ u2;have q2_2:=cell_of_row _ _ 2 _ _ _ u2;have q2_3:=cell_of_row _ _ 3 _ _ _ u2;have q2_4:=cell_of_row _ _ 4 _ _ _ u2;simp only[List.getElem?_toArray,List.getElem?_cons_zero,List.getElem?_cons_succ]at q2_0 q2_1 q2_2 q2_3 q2_4;clear u1 q1_0 q1_1 q1_2 q1_3 q1_4;clear hb2;rcases h2 with rfl|⟨a2,c2,s2⟩
 ·go_wp2_with fail
  go_ret;exact⟨B2,_,rfl,.inl rfl⟩
 have hd2:decide (r2<0)=false:=by simp;omega
 have S2:=Lib.hid s2;have e2:r2≤r1:=by omega
 have C2:=Lib.hid c2;clear s2 c2
 go_wp2_with fail
 go_ret;exact⟨B2,_,rfl,.inr ⟨by omega,by unfold bg.wt;have:=C1.out;have:=C2.out;omega,⟨S1.out,(by unfold aN.small;trivial),S2.out⟩⟩⟩
theorem CW(xs:List aS)(L:Int){A:Option Addr}{c:Nat}{b1}(w:World)(hx:T1 w (.sl xs.length (xs.flatMap aS.enc)) b1 (.slice A xs.length c))(hn':xs.length≤maxLen)(hL0:0≤L)(hL1:L≤1048576):
  Calls Tryz.prog 65 #[.slice A xs.length c,.int .i64 L] w (lT L (xs.length≤1048576∧∀y∈xs,aS.small y) (jw (fun _=>0) xs) w):=by
 unfold maxLen at hn'
 by_cases hneg:L-(xs.length:Int)<0
 ·generalize xs.length=n at*;clear hx
  go_enter Tryz.func65,Tryz.ntmps65
  go_wp2_with fail
  go_ret;exact⟨Below.refl _ _,_,rfl,.inl rfl⟩
 ·have HS:Hid (xs.length≤1048576∧∀y∈xs,aS.small y):=Lib.hid ⟨by omega,fun y _=>by unfold aS.small;trivial⟩;obtain⟨n,hn⟩:∃n,xs.length=n:=⟨_,rfl⟩;rw[hn]at hx hneg hn' ⊢;have Hn:=Lib.hid hn;clear hx hn
  go_enter Tryz.func65,Tryz.ntmps65
  go_wp2_with fail
  go_ret;exact⟨Below.refl _ _,_,rfl,.inr ⟨by omega,by rw[sJ,Hn.out],by rw[←Hn.out];exact HS.out⟩⟩
theorem AZ(x:aA)(L:Int){b us}(w:World)(hx:TN w x.enc b us)(hm2:x.redexes.length≤maxLen)(hm3:x.links.length≤maxLen)(hm4:x.counts.length≤maxLen)(hL0:0≤L)(hL1:L≤1048576):
  Calls Tryz.prog 30 #[.agg us.toArray,.int .i64 L] w (lT L x.small x.wt w):=by
 obtain⟨Ax2,cx2,bx2,Ax3,cx3,bx3,Ax4,cx4,bx4,rfl,rfl,tx2,lx2,mx2,tx3,lx3,mx3,tx4,lx4,mx4⟩:=aA.us hx;clear lx2 mx2 lx3 mx3 lx4 mx4 hx;have B0:∀S,Below w.heap.size w (w.alloc S):=fun _=>(Below.refl _ _).alloc (Nat.le_refl _) _
 go_enter Tryz.func30,Tryz.ntmps30
 go_wp2_with fail
 refine(uL x.redexes L _ (tx2.below (B0 _)) hm2 (by omega) (by omega)).mono ?_;rintro e w1 ⟨hb1,r1,rfl,h1⟩;have z1:w.heap.size<w1.heap.size:=by have:=hb1.size;(try simp at this);omega
 have B1:Below w.heap.size w w1:=Below.trans (B0 _) (hb1.mono (by first|omega|(simp;done)|(simp;omega)));have u1:=(hb1.block w.heap.size (by simp<;>omega)).trans (heap_alloc_new w _);have q1_0:=cell_of_row _ _ 0 _ _ _ u1;have q1_1:=cell_of_row _ _ 1 _ _ _ u1;have q1_2:=cell_of_row _ _ 2 _ _ _ u1;have q1_3:=cell_of_row _ _ 3 _ _ _ u1;have q1_4:=cell_of_row _ _ 4 _ _ _ u1;simp only[List.getElem?_toArray,List.getElem?_cons_zero,List.getElem?_cons_succ]at q1_0 q1_1 q1_2 q1_3 q1_4;clear hb1;rcases h1 with rfl|⟨a1,c1,s1⟩
 ·go_wp2_with fail
  go_ret;exact⟨B1,_,rfl,.inl rfl⟩
 have hd1:decide (r1<0)=false:=by simp;omega
 have S1:=Lib.hid s1;have e1:r1≤L:=by omega
 have C1:=Lib.hid c1;clear s1 c1
 go_wp2_with fail
 refine(CW x.links r1 _ (tx3.below B1) hm3 (by omega) (by omega)).mono ?_;rintro e w2 ⟨hb2,r2,rfl,h2⟩;have z2:w.heap.size<w2.heap.size:=by have:=hb2.size;(try simp at this);omega
 have B2:Below w.heap.size w w2:=Below.trans B1 (hb2.mono (by first|omega|(simp;done)|(simp;omega)));have u2:=(hb2.block w.heap.size (by omega)).trans u1;have q2_0:=cell_of_row _ _ 0 _ _ _ u2;have q2_1:=cell_of_row _ _ 1 _ _ _ u2;have q2_2:=cell_of_row _ _ 2 _ _ _ u2;have q2_3:=cell_of_row _ _ 3 _ _ _ u2;have q2_4:=cell_of_row _ _ 4 _ _ _ u2;simp only[List.getElem?_toArray,List.getElem?_cons_zero,List.getElem?_cons_succ]at q2_0 q2_1 q2_2 q2_3 q2_4;clear u1 q1_0 q1_1 q1_2 q1_3 q1_4;clear hb2;rcases h2 with rfl|⟨a2,c2,s2⟩
 ·go_wp2_with fail
  go_ret;exact⟨B2,_,rfl,.inl rfl⟩
 have hd2:decide (r2<0)=false:=by simp;omega
 have S2:=Lib.hid s2;have e2:r2≤r1:=by omega
 have C2:=Lib.hid c2;clear s2 c2
 go_wp2_with fail
 refine(sD x.counts r2 _ (tx4.below B2) hm4 (by omega) (by omega)).mono ?_;rintro e w3 ⟨hb3,r3,rfl,h3⟩;have z3:w.heap.size<w3.heap.size:=by have:=hb3.size;(try simp at this);omega
 have B3:Below w.heap.size w w3:=Below.trans B2 (hb3.mono (by first|omega|(simp;done)|(simp;omega)));have u3:=(hb3.block w.heap.size (by omega)).trans u2;have q3_0:=cell_of_row _ _ 0 _ _ _ u3;have q3_1:=cell_of_row _ _ 1 _ _ _ u3;have q3_2:=cell_of_row _ _ 2 _ _ _ u3;have q3_3:=cell_of_row _ _ 3 _ _ _ u3;have q3_4:=cell_of_row _ _ 4 _ _ _ u3;simp only[List.getElem?_toArray,List.getElem?_cons_zero,List.getElem?_cons_succ]at q3_0 q3_1 q3_2 q3_3 q3_4;clear u2 q2_0 q2_1 q2_2 q2_3 q2_4;clear hb3;rcases h3 with rfl|⟨a3,c3,s3⟩
 ·go_wp2_with fail
  go_ret;exact⟨B3,_,rfl,.inl rfl⟩
 have hd3:decide (r3<0)=false:=by simp;omega
 have S3:=Lib.hid s3;have e3:r3≤r2:=by omega
 have C3:=Lib.hid c3;clear s3 c3
 go_wp2_with fail
 go_ret;exact⟨B3,_,rfl,.inr ⟨by omega,by unfold aA.wt;have:=C1.out;have:=C2.out;have:=C3.out;omega,⟨S1.out,S2.out,S3.out⟩⟩⟩
theorem yL(xs:List aA)(L:Int){A:Option Addr}{c:Nat}{b1}(w:World)(hx:T1 w (.sl xs.length (xs.flatMap aA.enc)) b1 (.slice A xs.length c))(hn':xs.length≤maxLen)(hL0:0≤L)(hL1:L≤1048576):
  Calls Tryz.prog 14 #[.slice A xs.length c,.int .i64 L] w (lT L (xs.length≤1048576∧∀y∈xs,aA.small y) (jw aA.wt xs) w):=by
 unfold maxLen at hn'
 by_cases hneg:L-(xs.length:Int)<0
 ·generalize xs.length=n at*;clear hx
  go_enter Tryz.func14,Tryz.ntmps14
  go_wp2_with fail
  go_ret;exact⟨Below.refl _ _,_,rfl,.inl rfl⟩
 ·have hn0:xs.length≤1048576:=by omega
  obtain⟨n,hn⟩:∃n,xs.length=n:=⟨_,rfl⟩;rw[hn]at hx hneg hn' hn0 ⊢;have Hn:Hid (xs.length=n):=hn;clear hn hn'
  go_enter Tryz.func14,Tryz.ntmps14
  go_wp2_with fail
  go_loopw [1,5] (fun l i w'=>∃(r:Int) (k:Nat),l=.int .i64 r∧0≤r∧Hid (r=L-(n+((xs.take k).map aA.wt).sum:Nat))∧r≤L∧k≤n∧i=.int .i64 k∧Hid (∀y∈xs.take k,y.small)∧Below w.heap.size w w') (fun _ i _=>n-(intOf i).toNat)
  case atStart=>exact⟨_,0,rfl,by omega,Lib.hid (by simp),by omega,by omega,rfl,Lib.hid (by simp),Below.refl _ _⟩
  case round=>
   obtain⟨r,k,rfl,hr0,hrw,hr1,hk,rfl,ht,hb⟩:=hrel
   by_cases hlt:k<n
   ·obtain⟨ba,oa,x,Ax2,cx2,px2,Ax3,cx3,px3,Ax4,cx4,px4,rfl,hba,hxk,x0,x1,x2,x3,x4,tx2,lx2,mx2,tx3,lx3,mx3,tx4,lx4,mx4⟩:=aA.iT (hx.below hb) Hn.out hlt;have nx:=aA.kK (w:=wr) (x:=x) tx2 tx3 tx4
    go_wp2_with fail
    refine(AZ x r _ nx (Nat.le_trans lx2 mx2) (Nat.le_trans lx3 mx3) (Nat.le_trans lx4 mx4) hr0 (by omega)).mono ?_;rintro e w1 ⟨hb1,r1,rfl,h⟩;rcases h with rfl|⟨h0,h1',h2⟩
    ·go_wp2_with fail
     go_ret;exact⟨hb.trans (hb1.mono hb.size),_,rfl,.inl rfl⟩
    ·have hd:decide (r1<0)=false:=by simp;omega
     have h1:r1≤r:=by omega
     have H1:=Lib.hid h1';clear h1';have H2:=Lib.hid h2;clear h2
     go_wp2_with fail
     go_roundw
     case rel=>exact⟨_,k+1,rfl,h0,Lib.hid (by rw[FM hxk.out,H1.out,hrw.out];omega),by omega,by omega,by go_num,Lib.hid (qh ht.out hxk.out H2.out),hb.trans (hb1.mono hb.size)⟩
     case measure=>simp[intOf];omega
   ·have:k=n:=by omega
    subst this
    go_wp2_with fail
    go_ret;have ht':=ht.out;have hrw':=hrw.out;rw[List.take_of_length_le (by rw[Hn.out];exact Nat.le_refl _)]at ht' hrw';rw[←Hn.out]at hrw';exact⟨hb,_,rfl,.inr ⟨hr0,hrw',⟨hn0,ht'⟩⟩⟩
theorem Eh(x:bP)(L:Int){b us}(w:World)(hx:TN w x.enc b us)(hm0:x.memory.cells.length≤maxLen)(hm4:x.memory.redexes.length≤maxLen)(hm5:x.workers.length≤maxLen)(hL0:0≤L)(hL1:L≤1048576):
  Calls Tryz.prog 4 #[.agg us.toArray,.int .i64 L] w (lT L x.small x.wt w):=by
 obtain⟨Ax0,cx0,bx0,Ax4,cx4,bx4,Ax5,cx5,bx5,rfl,rfl,tx0,lx0,mx0,tx4,lx4,mx4,tx5,lx5,mx5⟩:=bP.us hx;clear lx0 mx0 lx4 mx4 lx5 mx5 hx;have B0:∀S,Below w.heap.size w (w.alloc S):=fun _=>(Below.refl _ _).alloc (Nat.le_refl _) _
 go_enter Tryz.func4,Tryz.ntmps4
 go_wp2_with fail
 refine(AY x.memory L _ (bg.kK (x:=x.memory) (tx0.below (B0 _)) (tx4.below (B0 _))) hm0 hm4 (by omega) (by omega)).mono ?_;rintro e w1 ⟨hb1,r1,rfl,h1⟩;have z1:w.heap.size<w1.heap.size:=by have:=hb1.size;(try simp at this);omega
 have B1:Below w.heap.size w w1:=Below.trans (B0 _) (hb1.mono (by first|omega|(simp;done)|(simp;omega)));have u1:=(hb1.block w.heap.size (by simp<;>omega)).trans (heap_alloc_new w _);have q1_0:=cell_of_row _ _ 0 _ _ _ u1;have q1_1:=cell_of_row _ _ 1 _ _ _ u1;have q1_2:=cell_of_row _ _ 2 _ _ _ u1;have q1_3:=cell_of_row _ _ 3 _ _ _ u1;have q1_4:=cell_of_row _ _ 4 _ _ _ u1;have q1_5:=cell_of_row _ _ 5 _ _ _ u1;have q1_6:=cell_of_row _ _ 6 _ _ _ u1;simp only[List.getElem?_toArray,List.getElem?_cons_zero,List.getElem?_cons_succ]at q1_0 q1_1 q1_2 q1_3 q1_4 q1_5 q1_6
 clear hb1;rcases h1 with rfl|⟨a1,c1,s1⟩
 ·go_wp2_with fail
  go_ret;exact⟨B1,_,rfl,.inl rfl⟩
 have hd1:decide (r1<0)=false:=by simp;omega
 have S1:=Lib.hid s1;have e1:r1≤L:=by omega
 have C1:=Lib.hid c1;clear s1 c1
 go_wp2_with fail
 refine(yL x.workers r1 _ (tx5.below B1) hm5 (by omega) (by omega)).mono ?_;rintro e w2 ⟨hb2,r2,rfl,h2⟩;have z2:w.heap.size<w2.heap.size:=by have:=hb2.size;(try simp at this);omega
 have B2:Below w.heap.size w w2:=Below.trans B1 (hb2.mono (by first|omega|(simp;done)|(simp;omega)));have u2:=(hb2.block w.heap.size (by omega)).trans u1;have q2_0:=cell_of_row _ _ 0 _ _ _ u2;have q2_1:=cell_of_row _ _ 1 _ _ _ u2;have q2_2:=cell_of_row _ _ 2 _ _ _ u2;have q2_3:=cell_of_row _ _ 3 _ _ _ u2;have q2_4:=cell_of_row _ _ 4 _ _ _ u2;have q2_5:=cell_of_row _ _ 5 _ _ _ u2;have q2_6:=cell_of_row _ _ 6 _ _ _ u2;simp only[List.getElem?_toArray,List.getElem?_cons_zero,List.getElem?_cons_succ]at q2_0 q2_1 q2_2 q2_3 q2_4 q2_5 q2_6;clear u1 q1_0 q1_1 q1_2 q1_3 q1_4 q1_5 q1_6
 clear hb2;rcases h2 with rfl|⟨a2,c2,s2⟩
 ·go_wp2_with fail
  go_ret;exact⟨B2,_,rfl,.inl rfl⟩
 have hd2:decide (r2<0)=false:=by simp;omega
 have S2:=Lib.hid s2;have e2:r2≤r1:=by omega
 have C2:=Lib.hid c2;clear s2 c2
 go_wp2_with fail
 go_ret;exact⟨B2,_,rfl,.inr ⟨by omega,by unfold bP.wt;have:=C1.out;have:=C2.out;omega,⟨S1.out,S2.out⟩⟩⟩
end Go.Proofs.YtgiceoidjipgmaaGreat
