
/- Drawn nets: two agents that are an active pair. Printed by gen_bd.py. -/
import Derived.Test.YtnamelcmcikeoaaShort
import Derived.Test.YtnamelcmcikeoaaBc
set_option maxRecDepth 100000
set_option linter.unusedSimpArgs false
set_option linter.unusedVariables false
namespace Go.Tr
open Go Go.RowKit
theorem mg.congr{A B:Int→Prop}{xs:List ah}(h:mg A xs)(e:∀i,B i↔A i):mg B xs:=
 ⟨h.l1,h.wf,h.rt,fun i hi=>h.a1 i ((e i).1 hi),h.wi.congr fun p=>by rw[e],fun i hi hA k=>h.ze i hi (fun k=>hA ((e _).2 k)) k⟩
def Hg(b:Nat)(i:Int):Prop:=1≤i∧i<(b:Nat)
theorem mg.couple{A:Int→Prop}{xs:List ah}(h:mg A xs){k lv m lw:Int}{a b:ah}(ha:Fq k lv a)(hb:Fq m lw b)(hk:dz k=true)(hk1:k≠1)(hl:uJ lv=true)(hm:dz m=true)(hm1:m≠1)(hw:uJ lw=true):
  mg (fun i=>A i∨i=(xs.length:Nat)∨i=((xs.length+1:Nat):Int)) (aT (xs++[a]++[b]) (((xs.length:Nat):Int),0) ((((xs++[a]).length:Nat):Int),0)):=by
 have h1:=(h.single ha hk hk1 hl).single hb hm hm1 hw;have hn:∀j:Nat,xs.length≤j→¬A (j:Nat):=fun j hj e=>by have:=h.a1 _ e;omega
 have h2:=h1.pair (n:=xs.length) (by simp) (hn _ (Nat.le_refl _)) (hn _ (by omega)) h.l1;rw[show(xs++[a]).length=xs.length+1 by simp];exact h2
theorem aZ{x:Int}(h:0≤x∧x≤8):uJ x=true:=kU h
end Go.Tr
namespace Go.Proofs.Ytnamelcmcikeoaa
open Go Go.RowKit Go.Proofs Go.Tr
theorem pG:bS Try.prog 41=true:=by kernel_rfl
def rT(code:List Int)(d:DS)(A:Int→Prop)(xs:List ah):Prop:=∃(xs':List ah) (d':DS),mg (fun i=>A i∨i=(xs.length:Nat)∨i=((xs.length+1:Nat):Int)) xs'∧xs'.length=xs.length+2∧d'.k≤d.k+60∧
 aH Try.prog 41 [.ptr 10000 0,.ptr 10001 0] (kE code d++tN 10002 xs) (.tup []) (kE code d'++tN 10003 xs')
theorem Qu(code:List Int)(d:DS)(hb:Bytes code)(hd:d.k≤99999000)(A:Int→Prop)(xs:List ah)(hN:mg A xs)(hx:xs.length≤100000)(hc:(pk code (pk code d 3).2 8).1=0):rT code d A xs:=by
 have p1:=eO code d 3;have p2:=iy hb d 3;have p3:=dP hb d (n:=3) (by decide);have p4:=eO code (pk code d 3).2 8;obtain⟨a,da,ha,hda,fa⟩:=addN code (pk code (pk code d 3).2 8).2 hb (by omega) xs (by omega) 2 (pk code d 3).1 (by decide);obtain⟨b,db,hb2,hdb,fb⟩:=addN code da hb (by omega) (xs++[a]) (by simp;omega) 3 (pk code d 3).1 (by decide);have hn:=hN.couple ha hb2 (by decide) (by decide) (aZ (by omega)) (by decide) (by decide) (aZ (by omega));refine⟨_,db,hn,by rw[bB];simp,by omega,?_⟩
 have pa:aj (xs++[a]++[b]) (((xs.length:Nat):Int),0):=by
  have w:=(hN.single ha (by decide) (by decide) (aZ (by omega))).single hb2 (by decide) (by decide) (aZ (by omega));exact dw (by simp) (w.wf xs.length (by simp))
 have pb:aj (xs++[a]++[b]) ((((xs++[a]).length:Nat):Int),0):=by
  have w:=(hN.single ha (by decide) (by decide) (aZ (by omega))).single hb2 (by decide) (by decide) (aZ (by omega));exact dw (by simp) (w.wf (xs++[a]).length (by simp))
 have e0:((pk code (pk code d 3).2 8).1==0)=true:=by rw[hc];rfl
 have e1:((pk code (pk code d 3).2 8).1==1)=false:=by rw[hc];rfl
 have e2:((pk code (pk code d 3).2 8).1==2)=false:=by rw[hc];rfl
 have e3:((pk code (pk code d 3).2 8).1==3)=false:=by rw[hc];rfl
 have e4:((pk code (pk code d 3).2 8).1==4)=false:=by rw[hc];rfl
 have e5:((pk code (pk code d 3).2 8).1==5)=false:=by rw[hc];rfl
 have e6:((pk code (pk code d 3).2 8).1==6)=false:=by rw[hc];rfl
 have e7:((pk code (pk code d 3).2 8).1==7)=false:=by rw[hc];rfl
 refine aH.intro (nt:=106) aS mixed pG Try.func41 rfl rfl rfl rfl rfl rfl ?_;refine Or.inr (eI _ (eI _ (aI (bC code d hb (by omega) 3) ?_)));refine Or.inr (eI _ (eI _ (aI (bC code (pk code d 3).2 hb (by omega) 8) ?_)));refine aI (fun _=> ?_) (fun q=>by have q:((pk code (pk code d 3).2 8).1==0)=false:=q;rw[e0]at q;cases q);refine Or.inr (eI _ (eI _ (aI (fa) ?_)));refine Or.inr (eI _ (eI _ (aI (fb) ?_)));refine Or.inr (eI _ (eI _ (aI (mG (xs++[a]++[b]) [] (((xs.length:Nat):Int),0) ((((xs++[a]).length:Nat):Int),0) pa pb) ?_)));refine fin [(10003,21)] (aI rfl ?_)
 exact⟨trivial,⟨rfl,⟨rfl,rfl⟩,⟨rfl,rfl⟩,trivial⟩,trivial,⟨rfl,trivial⟩,⟨rfl,nP⟩,trivial⟩
theorem Qv(code:List Int)(d:DS)(hb:Bytes code)(hd:d.k≤99999000)(A:Int→Prop)(xs:List ah)(hN:mg A xs)(hx:xs.length≤100000)(hc:(pk code (pk code d 3).2 8).1=1):rT code d A xs:=by
 have p1:=eO code d 3;have p2:=iy hb d 3;have p3:=dP hb d (n:=3) (by decide);have p4:=eO code (pk code d 3).2 8;obtain⟨a,da,ha,hda,fa⟩:=addN code (pk code (pk code d 3).2 8).2 hb (by omega) xs (by omega) 4 (pk code d 3).1 (by decide);have r1:=eO code da 2;have r2:=iy hb da 2;have r3:=dP hb da (n:=2) (by decide);have s1:=eO code (pk code da 2).2 2;have s2:=iy hb (pk code da 2).2 2;have s3:=dP hb (pk code da 2).2 (n:=2) (by decide)
 have hm:0≤(pk code da 2).1*(pk code (pk code da 2).2 2).1∧(pk code da 2).1*(pk code (pk code da 2).2 2).1≤1:=by
  have h1:(pk code da 2).1=0∨(pk code da 2).1=1:=by omega
  rcases h1 with h1|h1<;>rw[h1]<;>omega
 have hl2:0≤(IntKind.i64.wrap ((pk code d 3).1+IntKind.i64.wrap ((pk code da 2).1*(pk code (pk code da 2).2 2).1)))∧(IntKind.i64.wrap ((pk code d 3).1+IntKind.i64.wrap ((pk code da 2).1*(pk code (pk code da 2).2 2).1)))≤8:=by rw[IntWalk.i64_in ((pk code da 2).1*(pk code (pk code da 2).2 2).1) (by omega),IntWalk.i64_in _ (by omega)];omega
 obtain⟨b,db,hb2,hdb,fb⟩:=addN code (pk code (pk code da 2).2 2).2 hb (by omega) (xs++[a]) (by simp;omega) 4 (IntKind.i64.wrap ((pk code d 3).1+IntKind.i64.wrap ((pk code da 2).1*(pk code (pk code da 2).2 2).1))) (by decide);have hn:=hN.couple ha hb2 (by decide) (by decide) (aZ (by omega)) (by decide) (by decide) (aZ hl2);refine⟨_,db,hn,by rw[bB];simp,by omega,?_⟩
 have pa:aj (xs++[a]++[b]) (((xs.length:Nat):Int),0):=by
  have w:=(hN.single ha (by decide) (by decide) (aZ (by omega))).single hb2 (by decide) (by decide) (aZ hl2);exact dw (by simp) (w.wf xs.length (by simp))
 have pb:aj (xs++[a]++[b]) ((((xs++[a]).length:Nat):Int),0):=by
  have w:=(hN.single ha (by decide) (by decide) (aZ (by omega))).single hb2 (by decide) (by decide) (aZ hl2);exact dw (by simp) (w.wf (xs++[a]).length (by simp))
 have e0:((pk code (pk code d 3).2 8).1==0)=false:=by rw[hc];rfl
 have e1:((pk code (pk code d 3).2 8).1==1)=true:=by rw[hc];rfl
 have e2:((pk code (pk code d 3).2 8).1==2)=false:=by rw[hc];rfl
 have e3:((pk code (pk code d 3).2 8).1==3)=false:=by rw[hc];rfl
 have e4:((pk code (pk code d 3).2 8).1==4)=false:=by rw[hc];rfl
 have e5:((pk code (pk code d 3).2 8).1==5)=false:=by rw[hc];rfl
 have e6:((pk code (pk code d 3).2 8).1==6)=false:=by rw[hc];rfl
 have e7:((pk code (pk code d 3).2 8).1==7)=false:=by rw[hc];rfl
 refine aH.intro (nt:=106) aS mixed pG Try.func41 rfl rfl rfl rfl rfl rfl ?_;refine Or.inr (eI _ (eI _ (aI (bC code d hb (by omega) 3) ?_)));refine Or.inr (eI _ (eI _ (aI (bC code (pk code d 3).2 hb (by omega) 8) ?_)));refine aI (fun q=>by have q:((pk code (pk code d 3).2 8).1==0)=true:=q;rw[e0]at q;cases q) (fun _=> ?_);refine aI (fun _=> ?_) (fun q=>by have q:((pk code (pk code d 3).2 8).1==1)=false:=q;rw[e1]at q;cases q);refine Or.inr (eI _ (eI _ (aI (fa) ?_)));refine Or.inr (eI _ (eI _ (aI (bC code da hb (by omega) 2) ?_)));refine Or.inr (eI _ (eI _ (aI (bC code (pk code da 2).2 hb (by omega) 2) ?_)))
 refine Or.inr (eI _ (eI _ (aI (fb) ?_)));refine Or.inr (eI _ (eI _ (aI (mG (xs++[a]++[b]) [] (((xs.length:Nat):Int),0) ((((xs++[a]).length:Nat):Int),0) pa pb) ?_)));refine fin [(10003,37)] (aI rfl ?_);exact⟨trivial,⟨rfl,⟨rfl,rfl⟩,⟨rfl,rfl⟩,trivial⟩,trivial,⟨rfl,trivial⟩,⟨rfl,nP⟩,trivial⟩
theorem Qw(code:List Int)(d:DS)(hb:Bytes code)(hd:d.k≤99999000)(A:Int→Prop)(xs:List ah)(hN:mg A xs)(hx:xs.length≤100000)(hc:(pk code (pk code d 3).2 8).1=2):rT code d A xs:=by
 have p1:=eO code d 3;have p2:=iy hb d 3;have p3:=dP hb d (n:=3) (by decide);have p4:=eO code (pk code d 3).2 8;have t1:=eO code (pk code (pk code d 3).2 8).2 (10:Nat);have t2:=iy hb (pk code (pk code d 3).2 8).2 (10:Nat);have t3:=dP hb (pk code (pk code d 3).2 8).2 (n:=(10:Nat)) (by decide)
 have tx:∀y:Int,0≤y→y<10→dz (elt (0:Int) [2,3,4,7,8,9,10,11,6,12] y)=true∧elt (0:Int) [2,3,4,7,8,9,10,11,6,12] y≠1:=fun y a1 a2=>by
  have:y=0∨y=1∨y=2∨y=3∨y=4∨y=5∨y=6∨y=7∨y=8∨y=9:=by omega
  rcases this with rfl|rfl|rfl|rfl|rfl|rfl|rfl|rfl|rfl|rfl<;>decide
 obtain⟨kf1,hk1⟩:=tx _ t2 t3;have hl1:0≤(IntKind.i64.wrap ((pk code d 3).1+1))∧(IntKind.i64.wrap ((pk code d 3).1+1))≤8:=by rw[IntWalk.i64_in _ (by omega)];omega
 obtain⟨a,da,ha,hda,fa⟩:=addN code (pk code (pk code (pk code d 3).2 8).2 (10:Nat)).2 hb (by omega) xs (by omega) (elt (0:Int) [2,3,4,7,8,9,10,11,6,12] (pk code (pk code (pk code d 3).2 8).2 (10:Nat)).1) (IntKind.i64.wrap ((pk code d 3).1+1)) kf1;obtain⟨b,db,hb2,hdb,fb⟩:=addN code da hb (by omega) (xs++[a]) (by simp;omega) 4 (pk code d 3).1 (by decide);have hn:=hN.couple ha hb2 kf1 hk1 (aZ hl1) (by decide) (by decide) (aZ (by omega));refine⟨_,db,hn,by rw[bB];simp,by omega,?_⟩
 have pa:aj (xs++[a]++[b]) (((xs.length:Nat):Int),0):=by
  have w:=(hN.single ha kf1 hk1 (aZ hl1)).single hb2 (by decide) (by decide) (aZ (by omega));exact dw (by simp) (w.wf xs.length (by simp))
 have pb:aj (xs++[a]++[b]) ((((xs++[a]).length:Nat):Int),0):=by
  have w:=(hN.single ha kf1 hk1 (aZ hl1)).single hb2 (by decide) (by decide) (aZ (by omega));exact dw (by simp) (w.wf (xs++[a]).length (by simp))
 have e0:((pk code (pk code d 3).2 8).1==0)=false:=by rw[hc];rfl
 have e1:((pk code (pk code d 3).2 8).1==1)=false:=by rw[hc];rfl
 have e2:((pk code (pk code d 3).2 8).1==2)=true:=by rw[hc];rfl
 have e3:((pk code (pk code d 3).2 8).1==3)=false:=by rw[hc];rfl
 have e4:((pk code (pk code d 3).2 8).1==4)=false:=by rw[hc];rfl
 have e5:((pk code (pk code d 3).2 8).1==5)=false:=by rw[hc];rfl
 have e6:((pk code (pk code d 3).2 8).1==6)=false:=by rw[hc];rfl
 have e7:((pk code (pk code d 3).2 8).1==7)=false:=by rw[hc];rfl
 refine aH.intro (nt:=106) aS mixed pG Try.func41 rfl rfl rfl rfl rfl rfl ?_;refine Or.inr (eI _ (eI _ (aI (bC code d hb (by omega) 3) ?_)));refine Or.inr (eI _ (eI _ (aI (bC code (pk code d 3).2 hb (by omega) 8) ?_)));refine aI (fun q=>by have q:((pk code (pk code d 3).2 8).1==0)=true:=q;rw[e0]at q;cases q) (fun _=> ?_);refine aI (fun q=>by have q:((pk code (pk code d 3).2 8).1==1)=true:=q;rw[e1]at q;cases q) (fun _=> ?_);refine aI (fun _=> ?_) (fun q=>by have q:((pk code (pk code d 3).2 8).1==2)=false:=q;rw[e2]at q;cases q);refine aI (fun _=> ?_) (fun q=>by have q:((pk code (pk code d 3).2 8).1==2)=false:=q;rw[e2]at q;cases q)
 refine Or.inr (eI _ (eI _ (aI (tZ code (pk code (pk code d 3).2 8).2 hb (by omega) [2,3,4,7,8,9,10,11,6,12] (by decide) (by decide)) ?_)));refine Or.inr (eI _ (eI _ (aI (fa) ?_)));refine Or.inr (eI _ (eI _ (aI (fb) ?_)));refine Or.inr (eI _ (eI _ (aI (mG (xs++[a]++[b]) [] (((xs.length:Nat):Int),0) ((((xs++[a]).length:Nat):Int),0) pa pb) ?_)));refine fin [(10003,53)] (aI rfl ?_);exact⟨trivial,⟨rfl,⟨rfl,rfl⟩,⟨rfl,rfl⟩,trivial⟩,trivial,⟨rfl,trivial⟩,⟨rfl,nP⟩,trivial⟩
theorem Qx(code:List Int)(d:DS)(hb:Bytes code)(hd:d.k≤99999000)(A:Int→Prop)(xs:List ah)(hN:mg A xs)(hx:xs.length≤100000)(hc:(pk code (pk code d 3).2 8).1=3):rT code d A xs:=by
 have p1:=eO code d 3;have p2:=iy hb d 3;have p3:=dP hb d (n:=3) (by decide);have p4:=eO code (pk code d 3).2 8;have t1:=eO code (pk code (pk code d 3).2 8).2 (10:Nat);have t2:=iy hb (pk code (pk code d 3).2 8).2 (10:Nat);have t3:=dP hb (pk code (pk code d 3).2 8).2 (n:=(10:Nat)) (by decide)
 have tx:∀y:Int,0≤y→y<10→dz (elt (0:Int) [2,3,4,7,8,9,10,11,6,12] y)=true∧elt (0:Int) [2,3,4,7,8,9,10,11,6,12] y≠1:=fun y a1 a2=>by
  have:y=0∨y=1∨y=2∨y=3∨y=4∨y=5∨y=6∨y=7∨y=8∨y=9:=by omega
  rcases this with rfl|rfl|rfl|rfl|rfl|rfl|rfl|rfl|rfl|rfl<;>decide
 obtain⟨kf1,hk1⟩:=tx _ t2 t3;have hl1:0≤(IntKind.i64.wrap ((pk code d 3).1+1))∧(IntKind.i64.wrap ((pk code d 3).1+1))≤8:=by rw[IntWalk.i64_in _ (by omega)];omega
 obtain⟨a,da,ha,hda,fa⟩:=addN code (pk code (pk code (pk code d 3).2 8).2 (10:Nat)).2 hb (by omega) xs (by omega) (elt (0:Int) [2,3,4,7,8,9,10,11,6,12] (pk code (pk code (pk code d 3).2 8).2 (10:Nat)).1) (IntKind.i64.wrap ((pk code d 3).1+1)) kf1;obtain⟨b,db,hb2,hdb,fb⟩:=addN code da hb (by omega) (xs++[a]) (by simp;omega) 4 (pk code d 3).1 (by decide);have hn:=hN.couple ha hb2 kf1 hk1 (aZ hl1) (by decide) (by decide) (aZ (by omega));refine⟨_,db,hn,by rw[bB];simp,by omega,?_⟩
 have pa:aj (xs++[a]++[b]) (((xs.length:Nat):Int),0):=by
  have w:=(hN.single ha kf1 hk1 (aZ hl1)).single hb2 (by decide) (by decide) (aZ (by omega));exact dw (by simp) (w.wf xs.length (by simp))
 have pb:aj (xs++[a]++[b]) ((((xs++[a]).length:Nat):Int),0):=by
  have w:=(hN.single ha kf1 hk1 (aZ hl1)).single hb2 (by decide) (by decide) (aZ (by omega));exact dw (by simp) (w.wf (xs++[a]).length (by simp))
 have e0:((pk code (pk code d 3).2 8).1==0)=false:=by rw[hc];rfl
 have e1:((pk code (pk code d 3).2 8).1==1)=false:=by rw[hc];rfl
 have e2:((pk code (pk code d 3).2 8).1==2)=false:=by rw[hc];rfl
 have e3:((pk code (pk code d 3).2 8).1==3)=true:=by rw[hc];rfl
 have e4:((pk code (pk code d 3).2 8).1==4)=false:=by rw[hc];rfl
 have e5:((pk code (pk code d 3).2 8).1==5)=false:=by rw[hc];rfl
 have e6:((pk code (pk code d 3).2 8).1==6)=false:=by rw[hc];rfl
 have e7:((pk code (pk code d 3).2 8).1==7)=false:=by rw[hc];rfl
 refine aH.intro (nt:=106) aS mixed pG Try.func41 rfl rfl rfl rfl rfl rfl ?_;refine Or.inr (eI _ (eI _ (aI (bC code d hb (by omega) 3) ?_)));refine Or.inr (eI _ (eI _ (aI (bC code (pk code d 3).2 hb (by omega) 8) ?_)));refine aI (fun q=>by have q:((pk code (pk code d 3).2 8).1==0)=true:=q;rw[e0]at q;cases q) (fun _=> ?_);refine aI (fun q=>by have q:((pk code (pk code d 3).2 8).1==1)=true:=q;rw[e1]at q;cases q) (fun _=> ?_);refine aI (fun q=>by have q:((pk code (pk code d 3).2 8).1==2)=true:=q;rw[e2]at q;cases q) (fun _=> ?_);refine aI (fun _=> ?_) (fun q=>by have q:((pk code (pk code d 3).2 8).1==3)=false:=q;rw[e3]at q;cases q)
 refine Or.inr (eI _ (eI _ (aI (tZ code (pk code (pk code d 3).2 8).2 hb (by omega) [2,3,4,7,8,9,10,11,6,12] (by decide) (by decide)) ?_)));refine Or.inr (eI _ (eI _ (aI (fa) ?_)));refine Or.inr (eI _ (eI _ (aI (fb) ?_)));refine Or.inr (eI _ (eI _ (aI (mG (xs++[a]++[b]) [] (((xs.length:Nat):Int),0) ((((xs++[a]).length:Nat):Int),0) pa pb) ?_)));refine fin [(10003,53)] (aI rfl ?_);exact⟨trivial,⟨rfl,⟨rfl,rfl⟩,⟨rfl,rfl⟩,trivial⟩,trivial,⟨rfl,trivial⟩,⟨rfl,nP⟩,trivial⟩
theorem Qy(code:List Int)(d:DS)(hb:Bytes code)(hd:d.k≤99999000)(A:Int→Prop)(xs:List ah)(hN:mg A xs)(hx:xs.length≤100000)(hc:(pk code (pk code d 3).2 8).1=4):rT code d A xs:=by
 have p1:=eO code d 3;have p2:=iy hb d 3;have p3:=dP hb d (n:=3) (by decide);have p4:=eO code (pk code d 3).2 8;obtain⟨a,da,ha,hda,fa⟩:=addN code (pk code (pk code d 3).2 8).2 hb (by omega) xs (by omega) 5 0 (by decide);have r1:=eO code da 11;have r2:=iy hb da 11;have r3:=dP hb da (n:=11) (by decide);have kf2:dz (IntKind.i64.wrap (2+(pk code da 11).1))=true:=by rw[IntWalk.i64_in _ (by omega)];exact kU (by omega)
 have hk2:(IntKind.i64.wrap (2+(pk code da 11).1))≠1:=by rw[IntWalk.i64_in _ (by omega)];omega
 obtain⟨b,db,hb2,hdb,fb⟩:=addN code (pk code da 11).2 hb (by omega) (xs++[a]) (by simp;omega) (IntKind.i64.wrap (2+(pk code da 11).1)) (pk code d 3).1 kf2;have hn:=hN.couple ha hb2 (by decide) (by decide) (aZ (by omega)) kf2 hk2 (aZ (by omega));refine⟨_,db,hn,by rw[bB];simp,by omega,?_⟩
 have pa:aj (xs++[a]++[b]) (((xs.length:Nat):Int),0):=by
  have w:=(hN.single ha (by decide) (by decide) (aZ (by omega))).single hb2 kf2 hk2 (aZ (by omega));exact dw (by simp) (w.wf xs.length (by simp))
 have pb:aj (xs++[a]++[b]) ((((xs++[a]).length:Nat):Int),0):=by
  have w:=(hN.single ha (by decide) (by decide) (aZ (by omega))).single hb2 kf2 hk2 (aZ (by omega));exact dw (by simp) (w.wf (xs++[a]).length (by simp))
 have e0:((pk code (pk code d 3).2 8).1==0)=false:=by rw[hc];rfl
 have e1:((pk code (pk code d 3).2 8).1==1)=false:=by rw[hc];rfl
 have e2:((pk code (pk code d 3).2 8).1==2)=false:=by rw[hc];rfl
 have e3:((pk code (pk code d 3).2 8).1==3)=false:=by rw[hc];rfl
 have e4:((pk code (pk code d 3).2 8).1==4)=true:=by rw[hc];rfl
 have e5:((pk code (pk code d 3).2 8).1==5)=false:=by rw[hc];rfl
 have e6:((pk code (pk code d 3).2 8).1==6)=false:=by rw[hc];rfl
 have e7:((pk code (pk code d 3).2 8).1==7)=false:=by rw[hc];rfl
 refine aH.intro (nt:=106) aS mixed pG Try.func41 rfl rfl rfl rfl rfl rfl ?_;refine Or.inr (eI _ (eI _ (aI (bC code d hb (by omega) 3) ?_)));refine Or.inr (eI _ (eI _ (aI (bC code (pk code d 3).2 hb (by omega) 8) ?_)));refine aI (fun q=>by have q:((pk code (pk code d 3).2 8).1==0)=true:=q;rw[e0]at q;cases q) (fun _=> ?_);refine aI (fun q=>by have q:((pk code (pk code d 3).2 8).1==1)=true:=q;rw[e1]at q;cases q) (fun _=> ?_);refine aI (fun q=>by have q:((pk code (pk code d 3).2 8).1==2)=true:=q;rw[e2]at q;cases q) (fun _=> ?_);refine aI (fun q=>by have q:((pk code (pk code d 3).2 8).1==3)=true:=q;rw[e3]at q;cases q) (fun _=> ?_)
 refine aI (fun _=> ?_) (fun q=>by have q:((pk code (pk code d 3).2 8).1==4)=false:=q;rw[e4]at q;cases q);refine Or.inr (eI _ (eI _ (aI (fa) ?_)));refine Or.inr (eI _ (eI _ (aI (bC code da hb (by omega) 11) ?_)));refine Or.inr (eI _ (eI _ (aI (fb) ?_)));refine Or.inr (eI _ (eI _ (aI (mG (xs++[a]++[b]) [] (((xs.length:Nat):Int),0) ((((xs++[a]).length:Nat):Int),0) pa pb) ?_)));refine fin [(10003,65)] (aI rfl ?_);exact⟨trivial,⟨rfl,⟨rfl,rfl⟩,⟨rfl,rfl⟩,trivial⟩,trivial,⟨rfl,trivial⟩,⟨rfl,nP⟩,trivial⟩
theorem Qz(code:List Int)(d:DS)(hb:Bytes code)(hd:d.k≤99999000)(A:Int→Prop)(xs:List ah)(hN:mg A xs)(hx:xs.length≤100000)(hc:(pk code (pk code d 3).2 8).1=5):rT code d A xs:=by
 have p1:=eO code d 3;have p2:=iy hb d 3;have p3:=dP hb d (n:=3) (by decide);have p4:=eO code (pk code d 3).2 8;have t1:=eO code (pk code (pk code d 3).2 8).2 (3:Nat);have t2:=iy hb (pk code (pk code d 3).2 8).2 (3:Nat);have t3:=dP hb (pk code (pk code d 3).2 8).2 (n:=(3:Nat)) (by decide)
 have tx:∀y:Int,0≤y→y<3→dz (elt (0:Int) [7,8,11] y)=true∧elt (0:Int) [7,8,11] y≠1:=fun y a1 a2=>by
  have:y=0∨y=1∨y=2:=by omega
  rcases this with rfl|rfl|rfl<;>decide
 obtain⟨kf1,hk1⟩:=tx _ t2 t3;obtain⟨a,da,ha,hda,fa⟩:=addN code (pk code (pk code (pk code d 3).2 8).2 (3:Nat)).2 hb (by omega) xs (by omega) (elt (0:Int) [7,8,11] (pk code (pk code (pk code d 3).2 8).2 (3:Nat)).1) (pk code d 3).1 kf1;obtain⟨b,db,hb2,hdb,fb⟩:=addN code da hb (by omega) (xs++[a]) (by simp;omega) 6 0 (by decide);have hn:=hN.couple ha hb2 kf1 hk1 (aZ (by omega)) (by decide) (by decide) (aZ (by omega));refine⟨_,db,hn,by rw[bB];simp,by omega,?_⟩
 have pa:aj (xs++[a]++[b]) (((xs.length:Nat):Int),0):=by
  have w:=(hN.single ha kf1 hk1 (aZ (by omega))).single hb2 (by decide) (by decide) (aZ (by omega));exact dw (by simp) (w.wf xs.length (by simp))
 have pb:aj (xs++[a]++[b]) ((((xs++[a]).length:Nat):Int),0):=by
  have w:=(hN.single ha kf1 hk1 (aZ (by omega))).single hb2 (by decide) (by decide) (aZ (by omega));exact dw (by simp) (w.wf (xs++[a]).length (by simp))
 have e0:((pk code (pk code d 3).2 8).1==0)=false:=by rw[hc];rfl
 have e1:((pk code (pk code d 3).2 8).1==1)=false:=by rw[hc];rfl
 have e2:((pk code (pk code d 3).2 8).1==2)=false:=by rw[hc];rfl
 have e3:((pk code (pk code d 3).2 8).1==3)=false:=by rw[hc];rfl
 have e4:((pk code (pk code d 3).2 8).1==4)=false:=by rw[hc];rfl
 have e5:((pk code (pk code d 3).2 8).1==5)=true:=by rw[hc];rfl
 have e6:((pk code (pk code d 3).2 8).1==6)=false:=by rw[hc];rfl
 have e7:((pk code (pk code d 3).2 8).1==7)=false:=by rw[hc];rfl
 refine aH.intro (nt:=106) aS mixed pG Try.func41 rfl rfl rfl rfl rfl rfl ?_;refine Or.inr (eI _ (eI _ (aI (bC code d hb (by omega) 3) ?_)));refine Or.inr (eI _ (eI _ (aI (bC code (pk code d 3).2 hb (by omega) 8) ?_)));refine aI (fun q=>by have q:((pk code (pk code d 3).2 8).1==0)=true:=q;rw[e0]at q;cases q) (fun _=> ?_);refine aI (fun q=>by have q:((pk code (pk code d 3).2 8).1==1)=true:=q;rw[e1]at q;cases q) (fun _=> ?_);refine aI (fun q=>by have q:((pk code (pk code d 3).2 8).1==2)=true:=q;rw[e2]at q;cases q) (fun _=> ?_);refine aI (fun q=>by have q:((pk code (pk code d 3).2 8).1==3)=true:=q;rw[e3]at q;cases q) (fun _=> ?_)
 refine aI (fun q=>by have q:((pk code (pk code d 3).2 8).1==4)=true:=q;rw[e4]at q;cases q) (fun _=> ?_);refine aI (fun _=> ?_) (fun q=>by have q:((pk code (pk code d 3).2 8).1==5)=false:=q;rw[e5]at q;cases q);refine Or.inr (eI _ (eI _ (aI (tZ code (pk code (pk code d 3).2 8).2 hb (by omega) [7,8,11] (by decide) (by decide)) ?_)));refine Or.inr (eI _ (eI _ (aI (fa) ?_)));refine Or.inr (eI _ (eI _ (aI (fb) ?_)));refine Or.inr (eI _ (eI _ (aI (mG (xs++[a]++[b]) [] (((xs.length:Nat):Int),0) ((((xs++[a]).length:Nat):Int),0) pa pb) ?_)));refine fin [(10003,77)] (aI rfl ?_)
 exact⟨trivial,⟨rfl,⟨rfl,rfl⟩,⟨rfl,rfl⟩,trivial⟩,trivial,⟨rfl,trivial⟩,⟨rfl,nP⟩,trivial⟩
theorem QA(code:List Int)(d:DS)(hb:Bytes code)(hd:d.k≤99999000)(A:Int→Prop)(xs:List ah)(hN:mg A xs)(hx:xs.length≤100000)(hc:(pk code (pk code d 3).2 8).1=6):rT code d A xs:=by
 have p1:=eO code d 3;have p2:=iy hb d 3;have p3:=dP hb d (n:=3) (by decide);have p4:=eO code (pk code d 3).2 8;obtain⟨a,da,ha,hda,fa⟩:=addN code (pk code (pk code d 3).2 8).2 hb (by omega) xs (by omega) 10 (pk code d 3).1 (by decide);obtain⟨b,db,hb2,hdb,fb⟩:=addN code da hb (by omega) (xs++[a]) (by simp;omega) 9 (pk code d 3).1 (by decide);have hn:=hN.couple ha hb2 (by decide) (by decide) (aZ (by omega)) (by decide) (by decide) (aZ (by omega));refine⟨_,db,hn,by rw[bB];simp,by omega,?_⟩
 have pa:aj (xs++[a]++[b]) (((xs.length:Nat):Int),0):=by
  have w:=(hN.single ha (by decide) (by decide) (aZ (by omega))).single hb2 (by decide) (by decide) (aZ (by omega));exact dw (by simp) (w.wf xs.length (by simp))
 have pb:aj (xs++[a]++[b]) ((((xs++[a]).length:Nat):Int),0):=by
  have w:=(hN.single ha (by decide) (by decide) (aZ (by omega))).single hb2 (by decide) (by decide) (aZ (by omega));exact dw (by simp) (w.wf (xs++[a]).length (by simp))
 have e0:((pk code (pk code d 3).2 8).1==0)=false:=by rw[hc];rfl
 have e1:((pk code (pk code d 3).2 8).1==1)=false:=by rw[hc];rfl
 have e2:((pk code (pk code d 3).2 8).1==2)=false:=by rw[hc];rfl
 have e3:((pk code (pk code d 3).2 8).1==3)=false:=by rw[hc];rfl
 have e4:((pk code (pk code d 3).2 8).1==4)=false:=by rw[hc];rfl
 have e5:((pk code (pk code d 3).2 8).1==5)=false:=by rw[hc];rfl
 have e6:((pk code (pk code d 3).2 8).1==6)=true:=by rw[hc];rfl
 have e7:((pk code (pk code d 3).2 8).1==7)=false:=by rw[hc];rfl
 refine aH.intro (nt:=106) aS mixed pG Try.func41 rfl rfl rfl rfl rfl rfl ?_;refine Or.inr (eI _ (eI _ (aI (bC code d hb (by omega) 3) ?_)));refine Or.inr (eI _ (eI _ (aI (bC code (pk code d 3).2 hb (by omega) 8) ?_)));refine aI (fun q=>by have q:((pk code (pk code d 3).2 8).1==0)=true:=q;rw[e0]at q;cases q) (fun _=> ?_);refine aI (fun q=>by have q:((pk code (pk code d 3).2 8).1==1)=true:=q;rw[e1]at q;cases q) (fun _=> ?_);refine aI (fun q=>by have q:((pk code (pk code d 3).2 8).1==2)=true:=q;rw[e2]at q;cases q) (fun _=> ?_);refine aI (fun q=>by have q:((pk code (pk code d 3).2 8).1==3)=true:=q;rw[e3]at q;cases q) (fun _=> ?_)
 refine aI (fun q=>by have q:((pk code (pk code d 3).2 8).1==4)=true:=q;rw[e4]at q;cases q) (fun _=> ?_);refine aI (fun q=>by have q:((pk code (pk code d 3).2 8).1==5)=true:=q;rw[e5]at q;cases q) (fun _=> ?_);refine aI (fun _=> ?_) (fun q=>by have q:((pk code (pk code d 3).2 8).1==6)=false:=q;rw[e6]at q;cases q);refine Or.inr (eI _ (eI _ (aI (fa) ?_)));refine Or.inr (eI _ (eI _ (aI (fb) ?_)));refine Or.inr (eI _ (eI _ (aI (mG (xs++[a]++[b]) [] (((xs.length:Nat):Int),0) ((((xs++[a]).length:Nat):Int),0) pa pb) ?_)));refine fin [(10003,87)] (aI rfl ?_)
 exact⟨trivial,⟨rfl,⟨rfl,rfl⟩,⟨rfl,rfl⟩,trivial⟩,trivial,⟨rfl,trivial⟩,⟨rfl,nP⟩,trivial⟩
theorem QB(code:List Int)(d:DS)(hb:Bytes code)(hd:d.k≤99999000)(A:Int→Prop)(xs:List ah)(hN:mg A xs)(hx:xs.length≤100000)(hc:(pk code (pk code d 3).2 8).1=7):rT code d A xs:=by
 have p1:=eO code d 3;have p2:=iy hb d 3;have p3:=dP hb d (n:=3) (by decide);have p4:=eO code (pk code d 3).2 8;obtain⟨a,da,ha,hda,fa⟩:=addN code (pk code (pk code d 3).2 8).2 hb (by omega) xs (by omega) 12 0 (by decide);have t1:=eO code da (5:Nat);have t2:=iy hb da (5:Nat);have t3:=dP hb da (n:=(5:Nat)) (by decide)
 have tx:∀y:Int,0≤y→y<5→dz (elt (0:Int) [3,7,8,10,11] y)=true∧elt (0:Int) [3,7,8,10,11] y≠1:=fun y a1 a2=>by
  have:y=0∨y=1∨y=2∨y=3∨y=4:=by omega
  rcases this with rfl|rfl|rfl|rfl|rfl<;>decide
 obtain⟨kf2,hk2⟩:=tx _ t2 t3;obtain⟨b,db,hb2,hdb,fb⟩:=addN code (pk code da (5:Nat)).2 hb (by omega) (xs++[a]) (by simp;omega) (elt (0:Int) [3,7,8,10,11] (pk code da (5:Nat)).1) (pk code d 3).1 kf2;have hn:=hN.couple ha hb2 (by decide) (by decide) (aZ (by omega)) kf2 hk2 (aZ (by omega));refine⟨_,db,hn,by rw[bB];simp,by omega,?_⟩
 have pa:aj (xs++[a]++[b]) (((xs.length:Nat):Int),0):=by
  have w:=(hN.single ha (by decide) (by decide) (aZ (by omega))).single hb2 kf2 hk2 (aZ (by omega));exact dw (by simp) (w.wf xs.length (by simp))
 have pb:aj (xs++[a]++[b]) ((((xs++[a]).length:Nat):Int),0):=by
  have w:=(hN.single ha (by decide) (by decide) (aZ (by omega))).single hb2 kf2 hk2 (aZ (by omega));exact dw (by simp) (w.wf (xs++[a]).length (by simp))
 have e0:((pk code (pk code d 3).2 8).1==0)=false:=by rw[hc];rfl
 have e1:((pk code (pk code d 3).2 8).1==1)=false:=by rw[hc];rfl
 have e2:((pk code (pk code d 3).2 8).1==2)=false:=by rw[hc];rfl
 have e3:((pk code (pk code d 3).2 8).1==3)=false:=by rw[hc];rfl
 have e4:((pk code (pk code d 3).2 8).1==4)=false:=by rw[hc];rfl
 have e5:((pk code (pk code d 3).2 8).1==5)=false:=by rw[hc];rfl
 have e6:((pk code (pk code d 3).2 8).1==6)=false:=by rw[hc];rfl
 have e7:((pk code (pk code d 3).2 8).1==7)=true:=by rw[hc];rfl
 refine aH.intro (nt:=106) aS mixed pG Try.func41 rfl rfl rfl rfl rfl rfl ?_;refine Or.inr (eI _ (eI _ (aI (bC code d hb (by omega) 3) ?_)));refine Or.inr (eI _ (eI _ (aI (bC code (pk code d 3).2 hb (by omega) 8) ?_)));refine aI (fun q=>by have q:((pk code (pk code d 3).2 8).1==0)=true:=q;rw[e0]at q;cases q) (fun _=> ?_);refine aI (fun q=>by have q:((pk code (pk code d 3).2 8).1==1)=true:=q;rw[e1]at q;cases q) (fun _=> ?_);refine aI (fun q=>by have q:((pk code (pk code d 3).2 8).1==2)=true:=q;rw[e2]at q;cases q) (fun _=> ?_);refine aI (fun q=>by have q:((pk code (pk code d 3).2 8).1==3)=true:=q;rw[e3]at q;cases q) (fun _=> ?_)
 refine aI (fun q=>by have q:((pk code (pk code d 3).2 8).1==4)=true:=q;rw[e4]at q;cases q) (fun _=> ?_);refine aI (fun q=>by have q:((pk code (pk code d 3).2 8).1==5)=true:=q;rw[e5]at q;cases q) (fun _=> ?_);refine aI (fun q=>by have q:((pk code (pk code d 3).2 8).1==6)=true:=q;rw[e6]at q;cases q) (fun _=> ?_);refine aI (fun _=> ?_) (fun q=>by have q:((pk code (pk code d 3).2 8).1==7)=false:=q;rw[e7]at q;cases q);refine Or.inr (eI _ (eI _ (aI (fa) ?_)));refine Or.inr (eI _ (eI _ (aI (tZ code da hb (by omega) [3,7,8,10,11] (by decide) (by decide)) ?_)))
 refine Or.inr (eI _ (eI _ (aI (fb) ?_)));refine Or.inr (eI _ (eI _ (aI (mG (xs++[a]++[b]) [] (((xs.length:Nat):Int),0) ((((xs++[a]).length:Nat):Int),0) pa pb) ?_)));refine fin [(10003,99)] (aI rfl ?_);exact⟨trivial,⟨rfl,⟨rfl,rfl⟩,⟨rfl,rfl⟩,trivial⟩,trivial,⟨rfl,trivial⟩,⟨rfl,nP⟩,trivial⟩
theorem QD(code:List Int)(d:DS)(hb:Bytes code)(hd:d.k≤99999000)(A:Int→Prop)(xs:List ah)(hN:mg A xs)(hx:xs.length≤100000):rT code d A xs:=by
 have p2:=iy hb (pk code d 3).2 8;have p3:=dP hb (pk code d 3).2 (n:=8) (by decide);have:(pk code (pk code d 3).2 8).1=0∨(pk code (pk code d 3).2 8).1=1∨(pk code (pk code d 3).2 8).1=2∨(pk code (pk code d 3).2 8).1=3∨(pk code (pk code d 3).2 8).1=4∨(pk code (pk code d 3).2 8).1=5∨(pk code (pk code d 3).2 8).1=6∨(pk code (pk code d 3).2 8).1=7:=by omega
 rcases this with h|h|h|h|h|h|h|h
 ·exact Qu code d hb hd A xs hN hx h
 ·exact Qv code d hb hd A xs hN hx h
 ·exact Qw code d hb hd A xs hN hx h
 ·exact Qx code d hb hd A xs hN hx h
 ·exact Qy code d hb hd A xs hN hx h
 ·exact Qz code d hb hd A xs hN hx h
 ·exact QA code d hb hd A xs hN hx h
 ·exact QB code d hb hd A xs hN hx h
end Go.Proofs.Ytnamelcmcikeoaa
