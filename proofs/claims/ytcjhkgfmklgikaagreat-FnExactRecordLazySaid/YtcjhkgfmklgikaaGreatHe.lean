
/- The pair on which a value waits: the reference's way. Printed by gen_he.py. -/
import Derived.Test.YtcjhkgfmklgikaaGreatShort
import Derived.Test.YtcjhkgfmklgikaaGreatHd
set_option maxRecDepth 100000
set_option linter.unusedSimpArgs false
set_option linter.unusedVariables false
set_option linter.unusedSectionVars false
namespace Go.Tr
open Go Go.RowKit
structure Ip(A:List aj)(D:Int→Prop)(q0 q:aD)(path:List Int):Prop where
 lv:Live D A q
 le:path.length≤A.length
 emp:path=[]→q=q0
 fst_:path≠[]→(q0.2==0)=false∧(q.2=0→q.1=0)
 con:path≠[]→∀m,gF A (path.length+m) q0.1=vW A q (elt 0 path ((path.length:Nat)-1:Int)) m
 wy:way A q0=path++(bif q.2==0 then[]else Dn A (A.length-path.length) q.1)
section
variable {A:List aj}{D:Int→Prop}{q0 q:aD}{path:List Int}
theorem Ip.start(h:Live D A q0):Ip A D q0 q0 []:=⟨h,Nat.zero_le _,fun _=>rfl,fun e=>absurd rfl e,fun e=>absurd rfl e,rfl⟩
theorem Ip.step(W:Wd A D)(h:Ip A D q0 q path)(h2:(q.2==0)=false)(hs:path.length<A.length):
  Live D A (q.1,0)∧Live D A (au A (q.1,0))∧(q0.2==0)=false∧(∀m,gF A ((path++[q.1]).length+m) q0.1=vW A (au A (q.1,0)) q.1 m)∧way A q0=(path++[q.1])++(bif (au A (q.1,0)).2==0 then[]else Dn A (A.length-(path++[q.1]).length) (au A (q.1,0)).1):=by
 have hl:=h.lv;have hp:Live D A (q.1,0):=⟨⟨hl.1.1,hl.1.2.1,Int.le_refl 0,Int.lt_of_le_of_lt hl.1.2.2.1 hl.1.2.2.2⟩,hl.2⟩;obtain⟨_,w2,_,_⟩:=W.wi _ hp;refine⟨hp,w2,?_,fun m=> ?_,?_⟩
 ·cases hpt:path with
  |nil=>rw[←h.emp hpt];exact h2
  |cons a l=>exact(h.fst_ (by rw[hpt];simp)).1
 ·rw[qA,qJ];cases hpt:path with
  |nil=>
   have e:=h.emp hpt;rw[←e,qR,show 0+1+m=m+1 by omega];rfl
  |cons a l=>
   have k:=h.con (by rw[hpt];simp) (m+1);rw[ES A q _ m h2]at k;rw[←hpt,show path.length+1+m=path.length+(m+1) by omega];exact k
 ·have k:=h.wy;rw[show A.length-path.length=(A.length-(path.length+1))+1 by omega,Ka A q _ h2]at k;rw[k,qA,qJ,qF];rfl
theorem Ip.found(W:Wd A D)(hA:bf A)(h:Ip A D q0 q path)(h0:ak A (q0.1,0))(h2:(q.2==0)=false)(hs:path.length<A.length)(he:(bif (au A (q.1,0)).2==0 then(au A (q.1,0)).1 !=0 else false)=true):fU A q0=some (q.1,(au A (q.1,0)).1)∧path++[q.1]=way A q0:=by
 obtain⟨_,_,k3,k4,k5⟩:=h.step W h2 hs;cases hz:(au A (q.1,0)).2==0 with
 |false=>rw[hz]at he;cases he
 |true=>
  rw[hz,qG]at he;have hn:((au A (q.1,0)).1==0)=false:=by simpa using he
  have k:=k4 0;unfold vW at k;rw[hz,hn]at k;rw[hz,qG,qS]at k5;refine⟨?_,k5.symm⟩;unfold fU;rw[k3,qH];exact wS hA h0 k
theorem Ip.next(W:Wd A D)(h:Ip A D q0 q path)(h2:(q.2==0)=false)(hs:path.length<A.length)(he:(bif (au A (q.1,0)).2==0 then(au A (q.1,0)).1 !=0 else false)=false):Ip A D q0 (au A (q.1,0)) (path++[q.1]):=by
 obtain⟨_,k2,k3,k4,k5⟩:=h.step W h2 hs;refine⟨k2,by rw[qA,qJ];omega,fun e=>absurd e (by simp),fun _=>⟨k3,fun hz=> ?_⟩,fun _ m=> ?_,k5⟩
 ·rw[hz]at he;simpa using he
 ·rw[Mj];exact k4 m
theorem Ip.I6(h:Ip A D q0 q path)(he:(bif q.2 !=0 then decide (((path.length:Nat):Int)<(A.length:Nat))else false)=false):fU A q0=none∧path=way A q0:=by
 have hw:=h.wy;cases h2:q.2==0 with
 |true=>
  rw[h2,qG,qS]at hw;refine⟨?_,hw.symm⟩;cases hpt:path with
  |nil=>
   have e:=h.emp hpt;unfold fU;rw[←e,h2];rfl
  |cons a l=>
   have hne:path≠[]:=by rw[hpt];simp
   obtain⟨f1,f2⟩:=h.fst_ hne
   have hq:(q.1==0)=true:=by
    have:=f2 (by simpa using h2);simpa using this
   have k:=h.con hne (A.length-path.length);have hl:=h.le;rw[show path.length+(A.length-path.length)=A.length by omega]at k;unfold fU;rw[f1,qH,k];unfold vW;rw[h2,hq];rfl
 |false=>
  have h3:(q.2 !=0)=true:=by simpa using h2
  rw[h3,qG]at he;have hl:=h.le;have he2:¬((path.length:Nat):Int)<(A.length:Nat):=by simpa using he
  have hlen:A.length=path.length:=by omega
  rw[h2,qH,hlen,Nat.sub_self]at hw;have hw2:way A q0=path:=by rw[hw];show path++[]=path;rw[qS]
  refine⟨?_,hw2.symm⟩;cases hpt:path with
  |nil=>
   have:=h.lv.1.2.1;have:=h.lv.1.1;rw[hpt,qR]at hlen;omega
  |cons a l=>
   have hne:path≠[]:=by rw[hpt];simp
   obtain⟨f1,f2⟩:=h.fst_ hne;have k:=h.con hne 0;unfold fU;rw[f1,qH,hlen,show path.length=path.length+0 by omega,k];unfold vW;rw[h2];rfl
end
end Go.Tr
namespace Go.Proofs.YtcjhkgfmklgikaaGreat
open Go Go.RowKit Go.Proofs Go.Tr
theorem Zr(a b:Int):aN Tryz.prog 137 [.int .i64 a,.int .i64 b] (.int .i64 (min a b)):=by
 refine aN.intro (nt:=10) aJ mixed (by kernel_rfl) Tryz.func137 rfl rfl rfl rfl rfl ?_;refine aI (fun q=> ?_) (fun q=> ?_)
 ·have q2:decide (a<b)=true:=q;simp only[qQ]at q2;rw[show min a b=a by omega];exact⟨rfl,rfl⟩
 ·have q2:decide (a<b)=false:=q;simp only[qP]at q2;rw[show min a b=b by omega];exact⟨rfl,rfl⟩
theorem Zq(a b:Int):aN Tryz.prog 59 [.int .i64 a,.int .i64 b] (.int .i64 (max a b)):=by
 have h:=maxS a b
 have e:G5 a b=max a b:=by
  unfold G5;cases hd:decide (b<a)with
  |true=>simp only[qQ]at hd;simp only[qG];omega
  |false=>simp only[qP]at hd;simp only[qH];omega
 rw[e]at h;exact h
def Z6(s:aD×List Int):List Tok:=[.dD 5 62 [.int .i64 0,.int .i64 0],.dD 8 86 [.int .i64 s.1.1,.int .i64 s.1.2],.row 20000 2 1 (.int .i64) s.2 []]
section
variable (A:List aj)(D:Int→Prop)(p:aD)(W:Wd A D)(hA:bf A)(hp:Live D A p)(hl:A.length≤1000000)
include W hA hp hl
theorem Uw(h:fE A p=true):aA Tryz.prog 86 [.rp bO A,vP p] [] (.tup [.sl 10000,vP (0,0),.int .i64 3]) [.row 10000 2 1 (.int .i64) [] []]:=by
 obtain⟨_,w2,_,_⟩:=W.wi p hp;have hv:=Wz A p hp.1 w2.1;rw[h]at hv;refine aA.intro (nt:=62) aJ mixed Hg Tryz.func86 rfl rfl rfl rfl rfl rfl ?_;refine Or.inl (eI _ (aI hv ?_));refine aI (fun _=> ?_) (fun q=>by cases q);exact fin [(10000,10)] (aI rfl ⟨⟨rfl,nP⟩,trivial⟩)
set_option maxHeartbeats 4000000 in
theorem R9(hv0:fE A p=false)(h:fU A (au A p)=none):aA Tryz.prog 86 [.rp bO A,vP p] [] (.tup [.sl 10000,vP (0,0),.int .i64 5]) [.row 10000 2 1 (.int .i64) (way A (au A p)) []]:=by
 obtain⟨_,w2,_,_⟩:=W.wi p hp;have hv:=Wz A p hp.1 w2.1;rw[hv0]at hv;have hq0:ak A ((au A p).1,0):=⟨w2.1.1,w2.1.2.1,Int.le_refl 0,Int.lt_of_le_of_lt w2.1.2.2.1 w2.1.2.2.2⟩;refine aA.intro (nt:=62) aJ mixed Hg Tryz.func86 rfl rfl rfl rfl rfl rfl ?_;refine Or.inl (eI _ (aI hv ?_));refine aI (fun q=>by cases q) (fun _=> ?_);refine Or.inl (eI _ (aI (Bh A p hp.1) ?_));refine lp (aD×List Int) (fun s=>[(7,.sl 20000)]) Z6 (fun s=>A.length-s.2.length) (fun s=>Ip A D (au A p) s.1 s.2) (au A p,[]) (Ip.start w2) ?_ ?_
 ·exact hd [(20000,10)] rfl (aI rfl trivial) ⟨trivial,⟨⟨rfl,rfl⟩,⟨rfl,rfl⟩,trivial⟩,trivial,⟨⟨rfl,rfl⟩,⟨rfl,rfl⟩,trivial⟩,⟨rfl,nP⟩,trivial⟩
 rintro⟨q,path⟩ hI;have hI':Ip A D (au A p) q path:=hI;have hpl:=hI'.le;refine aI (fun q1=> ?_) (fun q1=> ?_)
 ·have q2:(bif q.2 !=0 then decide (((path.length:Nat):Int)<(A.length:Nat))else false)=true:=q1
  have h2:(q.2==0)=false:=by
   cases h3:q.2==0 with
   |false=>rfl
   |true=>rw[show(q.2 !=0)=false by simpa using h3]at q2;cases q2
  have hs:path.length<A.length:=by
   rw[show(q.2 !=0)=true by simpa using h2]at q2;have:((path.length:Nat):Int)<(A.length:Nat):=by simpa using q2
   omega
  obtain⟨s1,_⟩:=hI'.step W h2 hs;refine aI (show path.length+1≤1073741824 by omega) ?_;refine Or.inl (eI _ (aI (bM q.1 0) ?_));refine Or.inl (eI _ (aI (Bh A (q.1,0) s1.1) ?_));refine aI (fun q3=> ?_) (fun q3=> ?_)
  ·have q4:(bif (au A (q.1,0)).2==0 then(au A (q.1,0)).1 !=0 else false)=true:=q3;obtain⟨f1,f2⟩:=hI'.found W hA hq0 h2 hs q4;rw[f1]at h;cases h
  ·have q4:(bif (au A (q.1,0)).2==0 then(au A (q.1,0)).1 !=0 else false)=false:=q3;refine bB (au A (q.1,0),path++[q.1]) (hI'.next W h2 hs q4) ?_ ?_
   ·exact hd [(20000,37)] rfl (aI rfl trivial) ⟨trivial,⟨⟨rfl,rfl⟩,⟨rfl,rfl⟩,trivial⟩,trivial,⟨⟨rfl,rfl⟩,⟨rfl,rfl⟩,trivial⟩,⟨rfl,nP⟩,trivial⟩
   ·show A.length-(path++[q.1]).length<A.length-path.length;rw[qA,qJ];omega
 ·have q2:(bif q.2 !=0 then decide (((path.length:Nat):Int)<(A.length:Nat))else false)=false:=q1;obtain⟨e1,e2⟩:=hI'.I6 q2;exact fin [(10000,20000)] (aI rfl ⟨⟨e2,nP⟩,trivial⟩)
set_option maxHeartbeats 4000000 in
theorem Sb{a b:Int}(hv0:fE A p=false)(h:fU A (au A p)=some (a,b)):aA Tryz.prog 86 [.rp bO A,vP p] [] (.tup [.sl 10000,vP (min a b,max a b),.int .i64 0]) [.row 10000 2 1 (.int .i64) (way A (au A p)) []]:=by
 obtain⟨_,w2,_,_⟩:=W.wi p hp;have hv:=Wz A p hp.1 w2.1;rw[hv0]at hv;have hq0:ak A ((au A p).1,0):=⟨w2.1.1,w2.1.2.1,Int.le_refl 0,Int.lt_of_le_of_lt w2.1.2.2.1 w2.1.2.2.2⟩;refine aA.intro (nt:=62) aJ mixed Hg Tryz.func86 rfl rfl rfl rfl rfl rfl ?_;refine Or.inl (eI _ (aI hv ?_));refine aI (fun q=>by cases q) (fun _=> ?_);refine Or.inl (eI _ (aI (Bh A p hp.1) ?_));refine lp (aD×List Int) (fun s=>[(7,.sl 20000)]) Z6 (fun s=>A.length-s.2.length) (fun s=>Ip A D (au A p) s.1 s.2) (au A p,[]) (Ip.start w2) ?_ ?_
 ·exact hd [(20000,10)] rfl (aI rfl trivial) ⟨trivial,⟨⟨rfl,rfl⟩,⟨rfl,rfl⟩,trivial⟩,trivial,⟨⟨rfl,rfl⟩,⟨rfl,rfl⟩,trivial⟩,⟨rfl,nP⟩,trivial⟩
 rintro⟨q,path⟩ hI;have hI':Ip A D (au A p) q path:=hI;have hpl:=hI'.le;refine aI (fun q1=> ?_) (fun q1=> ?_)
 ·have q2:(bif q.2 !=0 then decide (((path.length:Nat):Int)<(A.length:Nat))else false)=true:=q1
  have h2:(q.2==0)=false:=by
   cases h3:q.2==0 with
   |false=>rfl
   |true=>rw[show(q.2 !=0)=false by simpa using h3]at q2;cases q2
  have hs:path.length<A.length:=by
   rw[show(q.2 !=0)=true by simpa using h2]at q2;have:((path.length:Nat):Int)<(A.length:Nat):=by simpa using q2
   omega
  obtain⟨s1,_⟩:=hI'.step W h2 hs;refine aI (show path.length+1≤1073741824 by omega) ?_;refine Or.inl (eI _ (aI (bM q.1 0) ?_));refine Or.inl (eI _ (aI (Bh A (q.1,0) s1.1) ?_));refine aI (fun q3=> ?_) (fun q3=> ?_)
  ·have q4:(bif (au A (q.1,0)).2==0 then(au A (q.1,0)).1 !=0 else false)=true:=q3;obtain⟨f1,f2⟩:=hI'.found W hA hq0 h2 hs q4;rw[f1]at h;injection h with h
   injection h with ha hb
   subst ha hb;refine Or.inl (eI _ (aI (Zr _ _) ?_));refine Or.inl (eI _ (aI (Zq _ _) ?_));refine aI (by kernel_rfl) ?_;exact fin [(10000,37)] (aI rfl ⟨⟨f2,nP⟩,trivial⟩)
  ·have q4:(bif (au A (q.1,0)).2==0 then(au A (q.1,0)).1 !=0 else false)=false:=q3;refine bB (au A (q.1,0),path++[q.1]) (hI'.next W h2 hs q4) ?_ ?_
   ·exact hd [(20000,37)] rfl (aI rfl trivial) ⟨trivial,⟨⟨rfl,rfl⟩,⟨rfl,rfl⟩,trivial⟩,trivial,⟨⟨rfl,rfl⟩,⟨rfl,rfl⟩,trivial⟩,⟨rfl,nP⟩,trivial⟩
   ·show A.length-(path++[q.1]).length<A.length-path.length;rw[qA,qJ];omega
 ·have q2:(bif q.2 !=0 then decide (((path.length:Nat):Int)<(A.length:Nat))else false)=false:=q1;obtain⟨e1,e2⟩:=hI'.I6 q2;rw[e1]at h;cases h
end
end Go.Proofs.YtcjhkgfmklgikaaGreat
