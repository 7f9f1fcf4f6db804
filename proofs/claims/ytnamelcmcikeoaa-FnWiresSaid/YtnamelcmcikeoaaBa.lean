
/- Drawn agents. Printed by gen_ba.py. -/
import Derived.Test.YtnamelcmcikeoaaShort
import Derived.Test.YtnamelcmcikeoaaLc
import Derived.Test.YtnamelcmcikeoaaJa
import Derived.Test.YtnamelcmcikeoaaIb
import Derived.Test.YtnamelcmcikeoaaNw
set_option maxHeartbeats 2000000
set_option maxRecDepth 100000
set_option linter.unusedSimpArgs false
set_option linter.unusedVariables false
namespace Go.Tr
open Go Go.RowKit
structure Fq(k lv:Int)(a:ah):Prop where
 kind:a.1=k
 lev:a.2.1=bif bn k then lv else 0
 cont:bg (gA a)=true
 dat:a.2.2.2.1.length≤4
 prt:∃n:Nat,1≤n∧n≤4∧a.2.2.2.2=List.replicate n (0,0)∧(n:Int)=aV k (bG k n)
theorem Fq.agent{k lv:Int}{a:ah}(h:Fq k lv a)(hk:dz k=true)(hl:uJ lv=true):bJ (gA a)=true:=by
 obtain⟨n,h1,h2,h3,h4⟩:=h.prt;unfold bJ;have e1:(gA a).kind=k:=h.kind;have e2:(gA a).aQ.length=n:=by show(a.2.2.2.2.map _).length=n;rw[List.length_map,h3,List.length_replicate]
 have e3:fieldsOf (gA a)=bG k n:=by unfold fieldsOf;rw[e1,e2]
 have e4:(gA a).level=bif bn k then lv else 0:=h.lev
 rw[e3,e1,e2,h.cont,←h4,e4]
 have e5:dH k (bif bn k then lv else 0)=true:=by
  unfold dH;rw[hk];cases bn k with
  |true=>simp[hl]
  |false=>simp
 rw[e5];simp;omega
theorem jC{k:Int}(h:dz k=true)(h9:k≠9):∃n:Nat,1≤n∧n≤4∧aV k 0=(n:Nat)∧(n:Int)=aV k (bG k n):=by
 have hf:∀n:Nat,bG k n=0:=fun n=>by unfold bG;simp[h9]
 rcases ru h with rfl|rfl|rfl|rfl|rfl|rfl|rfl|rfl|rfl|rfl|rfl|rfl
 all_goals first
  |exact absurd rfl h9
  |exact⟨1,by omega,by omega,by decide,by rw[hf];decide⟩
  |exact⟨2,by omega,by omega,by decide,by rw[hf];decide⟩
  |exact⟨3,by omega,by omega,by decide,by rw[hf];decide⟩
def dT(code:List Int)(d:DS):Nat→List Int×DS
 |0=>([],d)
 |i+1=>((dT code d i).1++[(pk code (dT code d i).2 4).1],(pk code (dT code d i).2 4).2)
theorem Ab(code:List Int)(d:DS):∀i,(dT code d i).1.length=i
 |0=>rfl
 |i+1=>by rw[dT,List.length_append,Ab code d i];rfl
theorem Mc(code:List Int)(d:DS):∀i,(dT code d i).2.k≤d.k+2*i
 |0=>Nat.le_refl _
 |i+1=>by
  have h1:=Mc code d i;have h2:=eO code (dT code d i).2 4;rw[dT];show(pk code (dT code d i).2 4).2.k≤_
  omega
theorem NP{code:List Int}(hb:Bytes code)(d:DS):∀i,∀x∈(dT code d i).1,0≤x∧x<4
 |0,x,h=>by cases h
 |i+1,x,h=>by
  rw[dT]at h;rcases List.mem_append.1 h with h|h
  ·exact NP hb d i x h
  ·rw[List.mem_singleton]at h;subst h;exact⟨iy hb _ 4,dP hb _ (by decide)⟩
theorem FR{l:List Int}(h:∀x∈l,0≤x∧x<4):iG l=true:=by
 unfold iG
 have key:∀i,i<l.length→gU (eT l i)=true:=fun i hi=>by
  have hx:eT l i=l[i]:=CF (List.getElem?_eq_getElem hi);rw[hx];have:=h _ (List.getElem_mem hi);unfold gU fK;simp;omega
 simpa[dK]using key
theorem kU{x a b:Int}(h:a≤x∧x≤b):fK x a b=true:=by unfold fK;simp;omega
end Go.Tr
namespace Go.Proofs.Ytnamelcmcikeoaa
open Go Go.RowKit Go.Proofs Go.Tr
def yN(code:List Int)(d:DS)(k lv:Int):Prop:=∃(a:ah) (d':DS),Fq k lv a∧d'.k≤d.k+24∧
 ((a.2.2.2.1=[]∧aH Try.prog 59 [.ptr 10000 0,.int .i64 k,.int .i64 lv] (kE code d) (.agg [.int .i64 a.1,.int .i64 a.2.1,.int .i64 a.2.2.1,.raw (.slice none 0 0),.sl 10001]) (kE code d'++[.row 10001 36 2 aO a.2.2.2.2 []]))∨
  aH Try.prog 59 [.ptr 10000 0,.int .i64 k,.int .i64 lv] (kE code d) (.agg [.int .i64 a.1,.int .i64 a.2.1,.int .i64 a.2.2.1,.sl 10001,.sl 10002]) (kE code d'++[.row 10001 2 1 (.int .i64) a.2.2.2.1 [],.row 10002 36 2 aO a.2.2.2.2 []]))
theorem Bj(k f:Int):aP Try.prog 62 [.int .i64 k,.int .i64 f] (.int .i64 (aV k f)):=by
 refine aP.intro (nt:=28) aS mixed (by kernel_rfl) Try.func62 rfl rfl rfl rfl rfl ?_;refine aI (fun q=> ?_) (fun q=> ?_)
 ·have q:k=9:=by have q:(k==9)=true:=q;simpa using q
  refine Or.inl (eI _ (aI (Mw f 0 3) ?_));refine aI (fun q2=> ?_) (fun q2=> ?_)
  ·have q2:fK f 0 3=true:=q2;have:=lg q2;refine aI (Eq.trans (IntWalk.i64_in _ (by omega)) ?_) rfl;simp only[aV,q,q2,if_true];omega
  ·have q2:fK f 0 3=false:=q2;refine aI (Eq.trans (Eq.refl _) ?_) rfl;simp[aV,q,q2]
 have q:¬k=9:=by have q:(k==9)=false:=q;simpa using q
 refine aI (fun q2=> ?_) (fun q2=> ?_)
 ·refine aI (Eq.trans (Eq.refl _) ?_) rfl;have q2:¬f=0:=by have q2:(f !=0)=true:=q2;simpa using q2
  simp[aV,q,q2]
 have q2:f=0:=by have q2:(f !=0)=false:=q2;simpa using q2
 repeat' (refine aI ?_ ?_<;>intro _)
 all_goals (refine aI (Eq.trans (Eq.refl _) ?_) rfl)
 all_goals (simp_all [aV])
theorem iC:bS Try.prog 59=true:=by kernel_rfl
theorem Sn(code:List Int)(d:DS)(hb:Bytes code)(hd:d.k≤99999900)(k lv:Int)(hk:dz k=true)(h6:(k==6)=false)(h7:(k==7)=false)(h8:(k==8)=false)(h9:(k==9)=false)(h12:(k==12)=false)(h11:(k==11)=false)(h10:(k==10)=false):yN code d k lv:=by
 have h9n:k≠9:=by intro e;subst e;cases h9
 obtain⟨n,hn1,hn2,hn3,hn4⟩:=jC hk h9n;have hp:=Bj k 0;rw[hn3]at hp;refine⟨(k,(bif bn k then lv else 0),0,[],List.replicate n (0,0)),d,⟨rfl,rfl,?_,?_,⟨n,hn1,hn2,rfl,hn4⟩⟩,?_,Or.inl ⟨rfl,?_⟩⟩
 ·show bg ⟨k,_,0,[],_⟩=true;simp only[bg,h6,h7,h8,h9,h12,h11,h10];rfl
 ·exact Nat.zero_le _
 ·omega
 cases hlv:bn k with
 |true=>
  refine aH.intro (nt:=106) aS mixed iC Try.func59 rfl rfl rfl rfl rfl rfl ?_;refine Or.inl (eI _ (aI hp ?_));refine Or.inl (eI _ (aI (fI k) ?_));refine aI (fun _=> ?_) (fun q=>by rw[hlv]at q;cases q);refine aI (fun q=>by have q:(k==6)=true:=q;rw[h6]at q;cases q) (fun _=> ?_);refine aI (fun q=>by have q:(k==7)=true:=q;rw[h7]at q;cases q) (fun _=> ?_);refine aI (fun q=>by have q:(k==8)=true:=q;rw[h8]at q;cases q) (fun _=> ?_);refine aI (fun q=>by have q:(k==9)=true:=q;rw[h9]at q;cases q) (fun _=> ?_);refine aI (fun q=>by have q:(k==12)=true:=q;rw[h12]at q;cases q) (fun _=> ?_)
  refine aI (fun q=>by have q:(k==11)=true:=q;rw[h11]at q;cases q) (fun _=> ?_);refine aI (fun q=>by have q:(k==10)=true:=q;rw[h10]at q;cases q) (fun _=> ?_);refine lp Nat (fun j=>[(10,.int .i64 ((n:Nat)-(j:Nat)))]) (fun j=>match j with|0=>[.aN 6 34 [.int .i64 0,.int .i64 0,.int .i64 0,.raw (.slice none 0 0),.raw (.slice none 0 0)],.aN 7 34 [.int .i64 k,.int .i64 lv,.int .i64 0,.raw (.slice none 0 0),.raw (.slice none 0 0)],.aN 10000 69 [.rsl aU code,.int .i64 ((d).k:Nat),.int .u64 (d).s]]|j+1=>[.aN 6 34 [.int .i64 0,.int .i64 0,.int .i64 0,.raw (.slice none 0 0),.raw (.slice none 0 0)],.aN 7 34 [.int .i64 k,.int .i64 lv,.int .i64 0,.raw (.slice none 0 0),.sl 20001],.aN 10000 69 [.rsl aU code,.int .i64 ((d).k:Nat),.int .u64 (d).s],.row 20001 36 2 aO (List.replicate (j+1) (0,0)) []]) (fun j=>n-j) (fun j=>j≤n) 0 (Nat.zero_le _) ?_ ?_
  ·exact Go.Tr.hd [] rfl (aI (aI (Int.sub_zero _).symm rfl) trivial) ⟨trivial,⟨⟨rfl,rfl⟩,⟨rfl,rfl⟩,⟨rfl,rfl⟩,rfl,rfl,trivial⟩,trivial,⟨⟨rfl,rfl⟩,⟨rfl,rfl⟩,⟨rfl,rfl⟩,rfl,rfl,trivial⟩,trivial,⟨rfl,⟨rfl,rfl⟩,⟨rfl,rfl⟩,trivial⟩,trivial⟩
  intro j hj;have hj:j≤n:=hj;have hwr:IntKind.i64.wrap ((n:Nat)-(j:Nat)-1)=(n:Nat)-((j+1:Nat):Int):=by rw[IntWalk.i64_in _ (by omega)];omega
  cases j with
  |zero=>
   refine aI (fun q1=> ?_) (fun q1=> ?_)
   ·have hlt:0<n:=by omega
    refine aI (by show 1≤1073741824;omega) ?_;refine aJ 1 (by omega) ?_ (show n-1<n-0 by omega);exact Go.Tr.hd [(20001,103)] rfl (aI (aI hwr rfl) trivial) ⟨trivial,⟨⟨rfl,rfl⟩,⟨rfl,rfl⟩,⟨rfl,rfl⟩,rfl,rfl,trivial⟩,trivial,⟨⟨rfl,rfl⟩,⟨rfl,rfl⟩,⟨rfl,rfl⟩,rfl,rfl,trivial⟩,trivial,⟨rfl,⟨rfl,rfl⟩,⟨rfl,rfl⟩,trivial⟩,⟨rfl,nP⟩,trivial⟩
   ·exfalso;have q2:decide ((0:Int)<(n:Nat)-((0:Nat):Int))=false:=q1;simp at q2;omega
  |succ j=>
   refine aI (fun q1=> ?_) (fun q1=> ?_)
   ·have hlt:j+1<n:=by have q2:decide ((0:Int)<(n:Nat)-((j+1:Nat):Int))=true:=q1;simp at q2;omega
    refine aI (by show(List.replicate (j+1) ((0:Int),(0:Int))).length+1≤1073741824;rw[List.length_replicate];omega) ?_;refine aJ (j+2) (by omega) ?_ (show n-(j+2)<n-(j+1) by omega);refine Go.Tr.hd [(20001,103)] rfl (aI (aI hwr rfl) trivial) ⟨trivial,⟨⟨rfl,rfl⟩,⟨rfl,rfl⟩,⟨rfl,rfl⟩,rfl,rfl,trivial⟩,trivial,⟨⟨rfl,rfl⟩,⟨rfl,rfl⟩,⟨rfl,rfl⟩,rfl,rfl,trivial⟩,trivial,⟨rfl,⟨rfl,rfl⟩,⟨rfl,rfl⟩,trivial⟩,⟨?_,nP⟩,trivial⟩;show List.replicate (j+1) ((0:Int),(0:Int))++[(0,0)]=List.replicate (j+1+1) (0,0);rw[List.replicate_succ' (n:=j+1)]
   ·have hn0:n=j+1:=by have q2:decide ((0:Int)<(n:Nat)-((j+1:Nat):Int))=false:=q1;simp at q2;omega
    refine fin [(10001,20001)] (aI ?_ ?_)
    ·rfl
    ·refine⟨trivial,⟨rfl,⟨rfl,rfl⟩,⟨rfl,rfl⟩,trivial⟩,⟨?_,nP⟩,trivial⟩;show List.replicate (j+1) ((0:Int),(0:Int))=List.replicate n (0,0);rw[hn0]
 |false=>
  refine aH.intro (nt:=106) aS mixed iC Try.func59 rfl rfl rfl rfl rfl rfl ?_;refine Or.inl (eI _ (aI hp ?_));refine Or.inl (eI _ (aI (fI k) ?_));refine aI (fun q=>by rw[hlv]at q;cases q) (fun _=> ?_);refine aI (fun q=>by have q:(k==6)=true:=q;rw[h6]at q;cases q) (fun _=> ?_);refine aI (fun q=>by have q:(k==7)=true:=q;rw[h7]at q;cases q) (fun _=> ?_);refine aI (fun q=>by have q:(k==8)=true:=q;rw[h8]at q;cases q) (fun _=> ?_);refine aI (fun q=>by have q:(k==9)=true:=q;rw[h9]at q;cases q) (fun _=> ?_);refine aI (fun q=>by have q:(k==12)=true:=q;rw[h12]at q;cases q) (fun _=> ?_)
  refine aI (fun q=>by have q:(k==11)=true:=q;rw[h11]at q;cases q) (fun _=> ?_);refine aI (fun q=>by have q:(k==10)=true:=q;rw[h10]at q;cases q) (fun _=> ?_);refine lp Nat (fun j=>[(10,.int .i64 ((n:Nat)-(j:Nat)))]) (fun j=>match j with|0=>[.aN 6 34 [.int .i64 0,.int .i64 0,.int .i64 0,.raw (.slice none 0 0),.raw (.slice none 0 0)],.aN 7 34 [.int .i64 k,.int .i64 0,.int .i64 0,.raw (.slice none 0 0),.raw (.slice none 0 0)],.aN 10000 69 [.rsl aU code,.int .i64 ((d).k:Nat),.int .u64 (d).s]]|j+1=>[.aN 6 34 [.int .i64 0,.int .i64 0,.int .i64 0,.raw (.slice none 0 0),.raw (.slice none 0 0)],.aN 7 34 [.int .i64 k,.int .i64 0,.int .i64 0,.raw (.slice none 0 0),.sl 20001],.aN 10000 69 [.rsl aU code,.int .i64 ((d).k:Nat),.int .u64 (d).s],.row 20001 36 2 aO (List.replicate (j+1) (0,0)) []]) (fun j=>n-j) (fun j=>j≤n) 0 (Nat.zero_le _) ?_ ?_
  ·exact Go.Tr.hd [] rfl (aI (aI (Int.sub_zero _).symm rfl) trivial) ⟨trivial,⟨⟨rfl,rfl⟩,⟨rfl,rfl⟩,⟨rfl,rfl⟩,rfl,rfl,trivial⟩,trivial,⟨⟨rfl,rfl⟩,⟨rfl,rfl⟩,⟨rfl,rfl⟩,rfl,rfl,trivial⟩,trivial,⟨rfl,⟨rfl,rfl⟩,⟨rfl,rfl⟩,trivial⟩,trivial⟩
  intro j hj;have hj:j≤n:=hj;have hwr:IntKind.i64.wrap ((n:Nat)-(j:Nat)-1)=(n:Nat)-((j+1:Nat):Int):=by rw[IntWalk.i64_in _ (by omega)];omega
  cases j with
  |zero=>
   refine aI (fun q1=> ?_) (fun q1=> ?_)
   ·have hlt:0<n:=by omega
    refine aI (by show 1≤1073741824;omega) ?_;refine aJ 1 (by omega) ?_ (show n-1<n-0 by omega);exact Go.Tr.hd [(20001,103)] rfl (aI (aI hwr rfl) trivial) ⟨trivial,⟨⟨rfl,rfl⟩,⟨rfl,rfl⟩,⟨rfl,rfl⟩,rfl,rfl,trivial⟩,trivial,⟨⟨rfl,rfl⟩,⟨rfl,rfl⟩,⟨rfl,rfl⟩,rfl,rfl,trivial⟩,trivial,⟨rfl,⟨rfl,rfl⟩,⟨rfl,rfl⟩,trivial⟩,⟨rfl,nP⟩,trivial⟩
   ·exfalso;have q2:decide ((0:Int)<(n:Nat)-((0:Nat):Int))=false:=q1;simp at q2;omega
  |succ j=>
   refine aI (fun q1=> ?_) (fun q1=> ?_)
   ·have hlt:j+1<n:=by have q2:decide ((0:Int)<(n:Nat)-((j+1:Nat):Int))=true:=q1;simp at q2;omega
    refine aI (by show(List.replicate (j+1) ((0:Int),(0:Int))).length+1≤1073741824;rw[List.length_replicate];omega) ?_;refine aJ (j+2) (by omega) ?_ (show n-(j+2)<n-(j+1) by omega);refine Go.Tr.hd [(20001,103)] rfl (aI (aI hwr rfl) trivial) ⟨trivial,⟨⟨rfl,rfl⟩,⟨rfl,rfl⟩,⟨rfl,rfl⟩,rfl,rfl,trivial⟩,trivial,⟨⟨rfl,rfl⟩,⟨rfl,rfl⟩,⟨rfl,rfl⟩,rfl,rfl,trivial⟩,trivial,⟨rfl,⟨rfl,rfl⟩,⟨rfl,rfl⟩,trivial⟩,⟨?_,nP⟩,trivial⟩;show List.replicate (j+1) ((0:Int),(0:Int))++[(0,0)]=List.replicate (j+1+1) (0,0);rw[List.replicate_succ' (n:=j+1)]
   ·have hn0:n=j+1:=by have q2:decide ((0:Int)<(n:Nat)-((j+1:Nat):Int))=false:=q1;simp at q2;omega
    refine fin [(10001,20001)] (aI ?_ ?_)
    ·rfl
    ·refine⟨trivial,⟨rfl,⟨rfl,rfl⟩,⟨rfl,rfl⟩,trivial⟩,⟨?_,nP⟩,trivial⟩;show List.replicate (j+1) ((0:Int),(0:Int))=List.replicate n (0,0);rw[hn0]
theorem QZ(code:List Int)(d:DS)(hb:Bytes code)(hd:d.k≤99999900)(k lv:Int)(hk:dz k=true)(h6:(k==6)=false)(h7:(k==7)=true):yN code d k lv:=by
 have hk7:k=7:=by simpa using h7
 have h9n:k≠9:=by omega
 obtain⟨n,hn1,hn2,hn3,hn4⟩:=jC hk h9n;have hp:=Bj k 0;rw[hn3]at hp;have p1:=eO code d 6;have p2:=iy hb d 6;have p3:=dP hb d (n:=6) (by decide);refine⟨(k,(bif bn k then lv else 0),(IntKind.i64.wrap (1+(pk code d 6).1)),[],List.replicate n (0,0)),(pk code d 6).2,⟨rfl,rfl,?_,?_,⟨n,hn1,hn2,rfl,hn4⟩⟩,?_,Or.inl ⟨rfl,?_⟩⟩
 ·show bg ⟨k,_,(IntKind.i64.wrap (1+(pk code d 6).1)),[],_⟩=true;rw[IntWalk.i64_in _ (by omega)];simp only[bg,h6,h7];have:iI (1+(pk code d 6).1)=true:=kU (by omega);simp[this]
 ·exact Nat.zero_le _
 ·omega
 cases hlv:bn k with
 |true=>
  refine aH.intro (nt:=106) aS mixed iC Try.func59 rfl rfl rfl rfl rfl rfl ?_;refine Or.inl (eI _ (aI hp ?_));refine Or.inl (eI _ (aI (fI k) ?_));refine aI (fun _=> ?_) (fun q=>by rw[hlv]at q;cases q);refine aI (fun q=>by have q:(k==6)=true:=q;rw[h6]at q;cases q) (fun _=> ?_);refine aI (fun _=> ?_) (fun q=>by have q:(k==7)=false:=q;rw[h7]at q;cases q);refine Or.inr (eI _ (eI _ (aI (bC code d hb (by omega) 6) ?_)));refine lp Nat (fun j=>[(10,.int .i64 ((n:Nat)-(j:Nat)))]) (fun j=>match j with|0=>[.aN 6 34 [.int .i64 0,.int .i64 0,.int .i64 0,.raw (.slice none 0 0),.raw (.slice none 0 0)],.aN 7 34 [.int .i64 k,.int .i64 lv,.int .i64 (IntKind.i64.wrap (1+(pk code d 6).1)),.raw (.slice none 0 0),.raw (.slice none 0 0)],.aN 10000 69 [.rsl aU code,.int .i64 (((pk code d 6).2).k:Nat),.int .u64 ((pk code d 6).2).s]]|j+1=>[.aN 6 34 [.int .i64 0,.int .i64 0,.int .i64 0,.raw (.slice none 0 0),.raw (.slice none 0 0)],.aN 7 34 [.int .i64 k,.int .i64 lv,.int .i64 (IntKind.i64.wrap (1+(pk code d 6).1)),.raw (.slice none 0 0),.sl 20001],.aN 10000 69 [.rsl aU code,.int .i64 (((pk code d 6).2).k:Nat),.int .u64 ((pk code d 6).2).s],.row 20001 36 2 aO (List.replicate (j+1) (0,0)) []]) (fun j=>n-j) (fun j=>j≤n) 0 (Nat.zero_le _) ?_ ?_
  ·exact Go.Tr.hd [] rfl (aI (aI (Int.sub_zero _).symm rfl) trivial) ⟨trivial,⟨⟨rfl,rfl⟩,⟨rfl,rfl⟩,⟨rfl,rfl⟩,rfl,rfl,trivial⟩,trivial,⟨⟨rfl,rfl⟩,⟨rfl,rfl⟩,⟨rfl,rfl⟩,rfl,rfl,trivial⟩,trivial,⟨rfl,⟨rfl,rfl⟩,⟨rfl,rfl⟩,trivial⟩,trivial⟩
  intro j hj;have hj:j≤n:=hj;have hwr:IntKind.i64.wrap ((n:Nat)-(j:Nat)-1)=(n:Nat)-((j+1:Nat):Int):=by rw[IntWalk.i64_in _ (by omega)];omega
  cases j with
  |zero=>
   refine aI (fun q1=> ?_) (fun q1=> ?_)
   ·have hlt:0<n:=by omega
    refine aI (by show 1≤1073741824;omega) ?_;refine aJ 1 (by omega) ?_ (show n-1<n-0 by omega);exact Go.Tr.hd [(20001,103)] rfl (aI (aI hwr rfl) trivial) ⟨trivial,⟨⟨rfl,rfl⟩,⟨rfl,rfl⟩,⟨rfl,rfl⟩,rfl,rfl,trivial⟩,trivial,⟨⟨rfl,rfl⟩,⟨rfl,rfl⟩,⟨rfl,rfl⟩,rfl,rfl,trivial⟩,trivial,⟨rfl,⟨rfl,rfl⟩,⟨rfl,rfl⟩,trivial⟩,⟨rfl,nP⟩,trivial⟩
   ·exfalso;have q2:decide ((0:Int)<(n:Nat)-((0:Nat):Int))=false:=q1;simp at q2;omega
  |succ j=>
   refine aI (fun q1=> ?_) (fun q1=> ?_)
   ·have hlt:j+1<n:=by have q2:decide ((0:Int)<(n:Nat)-((j+1:Nat):Int))=true:=q1;simp at q2;omega
    refine aI (by show(List.replicate (j+1) ((0:Int),(0:Int))).length+1≤1073741824;rw[List.length_replicate];omega) ?_;refine aJ (j+2) (by omega) ?_ (show n-(j+2)<n-(j+1) by omega);refine Go.Tr.hd [(20001,103)] rfl (aI (aI hwr rfl) trivial) ⟨trivial,⟨⟨rfl,rfl⟩,⟨rfl,rfl⟩,⟨rfl,rfl⟩,rfl,rfl,trivial⟩,trivial,⟨⟨rfl,rfl⟩,⟨rfl,rfl⟩,⟨rfl,rfl⟩,rfl,rfl,trivial⟩,trivial,⟨rfl,⟨rfl,rfl⟩,⟨rfl,rfl⟩,trivial⟩,⟨?_,nP⟩,trivial⟩;show List.replicate (j+1) ((0:Int),(0:Int))++[(0,0)]=List.replicate (j+1+1) (0,0);rw[List.replicate_succ' (n:=j+1)]
   ·have hn0:n=j+1:=by have q2:decide ((0:Int)<(n:Nat)-((j+1:Nat):Int))=false:=q1;simp at q2;omega
    refine fin [(10001,20001)] (aI ?_ ?_)
    ·rfl
    ·refine⟨trivial,⟨rfl,⟨rfl,rfl⟩,⟨rfl,rfl⟩,trivial⟩,⟨?_,nP⟩,trivial⟩;show List.replicate (j+1) ((0:Int),(0:Int))=List.replicate n (0,0);rw[hn0]
 |false=>
  refine aH.intro (nt:=106) aS mixed iC Try.func59 rfl rfl rfl rfl rfl rfl ?_;refine Or.inl (eI _ (aI hp ?_));refine Or.inl (eI _ (aI (fI k) ?_));refine aI (fun q=>by rw[hlv]at q;cases q) (fun _=> ?_);refine aI (fun q=>by have q:(k==6)=true:=q;rw[h6]at q;cases q) (fun _=> ?_);refine aI (fun _=> ?_) (fun q=>by have q:(k==7)=false:=q;rw[h7]at q;cases q);refine Or.inr (eI _ (eI _ (aI (bC code d hb (by omega) 6) ?_)));refine lp Nat (fun j=>[(10,.int .i64 ((n:Nat)-(j:Nat)))]) (fun j=>match j with|0=>[.aN 6 34 [.int .i64 0,.int .i64 0,.int .i64 0,.raw (.slice none 0 0),.raw (.slice none 0 0)],.aN 7 34 [.int .i64 k,.int .i64 0,.int .i64 (IntKind.i64.wrap (1+(pk code d 6).1)),.raw (.slice none 0 0),.raw (.slice none 0 0)],.aN 10000 69 [.rsl aU code,.int .i64 (((pk code d 6).2).k:Nat),.int .u64 ((pk code d 6).2).s]]|j+1=>[.aN 6 34 [.int .i64 0,.int .i64 0,.int .i64 0,.raw (.slice none 0 0),.raw (.slice none 0 0)],.aN 7 34 [.int .i64 k,.int .i64 0,.int .i64 (IntKind.i64.wrap (1+(pk code d 6).1)),.raw (.slice none 0 0),.sl 20001],.aN 10000 69 [.rsl aU code,.int .i64 (((pk code d 6).2).k:Nat),.int .u64 ((pk code d 6).2).s],.row 20001 36 2 aO (List.replicate (j+1) (0,0)) []]) (fun j=>n-j) (fun j=>j≤n) 0 (Nat.zero_le _) ?_ ?_
  ·exact Go.Tr.hd [] rfl (aI (aI (Int.sub_zero _).symm rfl) trivial) ⟨trivial,⟨⟨rfl,rfl⟩,⟨rfl,rfl⟩,⟨rfl,rfl⟩,rfl,rfl,trivial⟩,trivial,⟨⟨rfl,rfl⟩,⟨rfl,rfl⟩,⟨rfl,rfl⟩,rfl,rfl,trivial⟩,trivial,⟨rfl,⟨rfl,rfl⟩,⟨rfl,rfl⟩,trivial⟩,trivial⟩
  intro j hj;have hj:j≤n:=hj;have hwr:IntKind.i64.wrap ((n:Nat)-(j:Nat)-1)=(n:Nat)-((j+1:Nat):Int):=by rw[IntWalk.i64_in _ (by omega)];omega
  cases j with
  |zero=>
   refine aI (fun q1=> ?_) (fun q1=> ?_)
   ·have hlt:0<n:=by omega
    refine aI (by show 1≤1073741824;omega) ?_;refine aJ 1 (by omega) ?_ (show n-1<n-0 by omega);exact Go.Tr.hd [(20001,103)] rfl (aI (aI hwr rfl) trivial) ⟨trivial,⟨⟨rfl,rfl⟩,⟨rfl,rfl⟩,⟨rfl,rfl⟩,rfl,rfl,trivial⟩,trivial,⟨⟨rfl,rfl⟩,⟨rfl,rfl⟩,⟨rfl,rfl⟩,rfl,rfl,trivial⟩,trivial,⟨rfl,⟨rfl,rfl⟩,⟨rfl,rfl⟩,trivial⟩,⟨rfl,nP⟩,trivial⟩
   ·exfalso;have q2:decide ((0:Int)<(n:Nat)-((0:Nat):Int))=false:=q1;simp at q2;omega
  |succ j=>
   refine aI (fun q1=> ?_) (fun q1=> ?_)
   ·have hlt:j+1<n:=by have q2:decide ((0:Int)<(n:Nat)-((j+1:Nat):Int))=true:=q1;simp at q2;omega
    refine aI (by show(List.replicate (j+1) ((0:Int),(0:Int))).length+1≤1073741824;rw[List.length_replicate];omega) ?_;refine aJ (j+2) (by omega) ?_ (show n-(j+2)<n-(j+1) by omega);refine Go.Tr.hd [(20001,103)] rfl (aI (aI hwr rfl) trivial) ⟨trivial,⟨⟨rfl,rfl⟩,⟨rfl,rfl⟩,⟨rfl,rfl⟩,rfl,rfl,trivial⟩,trivial,⟨⟨rfl,rfl⟩,⟨rfl,rfl⟩,⟨rfl,rfl⟩,rfl,rfl,trivial⟩,trivial,⟨rfl,⟨rfl,rfl⟩,⟨rfl,rfl⟩,trivial⟩,⟨?_,nP⟩,trivial⟩;show List.replicate (j+1) ((0:Int),(0:Int))++[(0,0)]=List.replicate (j+1+1) (0,0);rw[List.replicate_succ' (n:=j+1)]
   ·have hn0:n=j+1:=by have q2:decide ((0:Int)<(n:Nat)-((j+1:Nat):Int))=false:=q1;simp at q2;omega
    refine fin [(10001,20001)] (aI ?_ ?_)
    ·rfl
    ·refine⟨trivial,⟨rfl,⟨rfl,rfl⟩,⟨rfl,rfl⟩,trivial⟩,⟨?_,nP⟩,trivial⟩;show List.replicate (j+1) ((0:Int),(0:Int))=List.replicate n (0,0);rw[hn0]
theorem newRef(code:List Int)(d:DS)(hb:Bytes code)(hd:d.k≤99999900)(k lv:Int)(hk:dz k=true)(h6:(k==6)=false)(h7:(k==7)=false)(h8:(k==8)=false)(h9:(k==9)=false)(h12:(k==12)=true):yN code d k lv:=by
 have hk12:k=12:=by simpa using h12
 have h9n:k≠9:=by omega
 obtain⟨n,hn1,hn2,hn3,hn4⟩:=jC hk h9n;have hp:=Bj k 0;rw[hn3]at hp;have p1:=eO code d 4;have p2:=iy hb d 4;have p3:=dP hb d (n:=4) (by decide);refine⟨(k,(bif bn k then lv else 0),(pk code d 4).1,[],List.replicate n (0,0)),(pk code d 4).2,⟨rfl,rfl,?_,?_,⟨n,hn1,hn2,rfl,hn4⟩⟩,?_,Or.inl ⟨rfl,?_⟩⟩
 ·show bg ⟨k,_,(pk code d 4).1,[],_⟩=true;simp only[bg,h6,h7,h8,h9,h12];have:gU (pk code d 4).1=true:=kU (by omega);simp[this]
 ·exact Nat.zero_le _
 ·omega
 cases hlv:bn k with
 |true=>
  refine aH.intro (nt:=106) aS mixed iC Try.func59 rfl rfl rfl rfl rfl rfl ?_;refine Or.inl (eI _ (aI hp ?_));refine Or.inl (eI _ (aI (fI k) ?_));refine aI (fun _=> ?_) (fun q=>by rw[hlv]at q;cases q);refine aI (fun q=>by have q:(k==6)=true:=q;rw[h6]at q;cases q) (fun _=> ?_);refine aI (fun q=>by have q:(k==7)=true:=q;rw[h7]at q;cases q) (fun _=> ?_);refine aI (fun q=>by have q:(k==8)=true:=q;rw[h8]at q;cases q) (fun _=> ?_);refine aI (fun q=>by have q:(k==9)=true:=q;rw[h9]at q;cases q) (fun _=> ?_);refine aI (fun _=> ?_) (fun q=>by have q:(k==12)=false:=q;rw[h12]at q;cases q)
  refine Or.inr (eI _ (eI _ (aI (bC code d hb (by omega) 4) ?_)));refine lp Nat (fun j=>[(10,.int .i64 ((n:Nat)-(j:Nat)))]) (fun j=>match j with|0=>[.aN 6 34 [.int .i64 0,.int .i64 0,.int .i64 0,.raw (.slice none 0 0),.raw (.slice none 0 0)],.aN 7 34 [.int .i64 k,.int .i64 lv,.int .i64 (pk code d 4).1,.raw (.slice none 0 0),.raw (.slice none 0 0)],.aN 10000 69 [.rsl aU code,.int .i64 (((pk code d 4).2).k:Nat),.int .u64 ((pk code d 4).2).s]]|j+1=>[.aN 6 34 [.int .i64 0,.int .i64 0,.int .i64 0,.raw (.slice none 0 0),.raw (.slice none 0 0)],.aN 7 34 [.int .i64 k,.int .i64 lv,.int .i64 (pk code d 4).1,.raw (.slice none 0 0),.sl 20001],.aN 10000 69 [.rsl aU code,.int .i64 (((pk code d 4).2).k:Nat),.int .u64 ((pk code d 4).2).s],.row 20001 36 2 aO (List.replicate (j+1) (0,0)) []]) (fun j=>n-j) (fun j=>j≤n) 0 (Nat.zero_le _) ?_ ?_
  ·exact Go.Tr.hd [] rfl (aI (aI (Int.sub_zero _).symm rfl) trivial) ⟨trivial,⟨⟨rfl,rfl⟩,⟨rfl,rfl⟩,⟨rfl,rfl⟩,rfl,rfl,trivial⟩,trivial,⟨⟨rfl,rfl⟩,⟨rfl,rfl⟩,⟨rfl,rfl⟩,rfl,rfl,trivial⟩,trivial,⟨rfl,⟨rfl,rfl⟩,⟨rfl,rfl⟩,trivial⟩,trivial⟩
  intro j hj;have hj:j≤n:=hj;have hwr:IntKind.i64.wrap ((n:Nat)-(j:Nat)-1)=(n:Nat)-((j+1:Nat):Int):=by rw[IntWalk.i64_in _ (by omega)];omega
  cases j with
  |zero=>
   refine aI (fun q1=> ?_) (fun q1=> ?_)
   ·have hlt:0<n:=by omega
    refine aI (by show 1≤1073741824;omega) ?_;refine aJ 1 (by omega) ?_ (show n-1<n-0 by omega);exact Go.Tr.hd [(20001,103)] rfl (aI (aI hwr rfl) trivial) ⟨trivial,⟨⟨rfl,rfl⟩,⟨rfl,rfl⟩,⟨rfl,rfl⟩,rfl,rfl,trivial⟩,trivial,⟨⟨rfl,rfl⟩,⟨rfl,rfl⟩,⟨rfl,rfl⟩,rfl,rfl,trivial⟩,trivial,⟨rfl,⟨rfl,rfl⟩,⟨rfl,rfl⟩,trivial⟩,⟨rfl,nP⟩,trivial⟩
   ·exfalso;have q2:decide ((0:Int)<(n:Nat)-((0:Nat):Int))=false:=q1;simp at q2;omega
  |succ j=>
   refine aI (fun q1=> ?_) (fun q1=> ?_)
   ·have hlt:j+1<n:=by have q2:decide ((0:Int)<(n:Nat)-((j+1:Nat):Int))=true:=q1;simp at q2;omega
    refine aI (by show(List.replicate (j+1) ((0:Int),(0:Int))).length+1≤1073741824;rw[List.length_replicate];omega) ?_;refine aJ (j+2) (by omega) ?_ (show n-(j+2)<n-(j+1) by omega);refine Go.Tr.hd [(20001,103)] rfl (aI (aI hwr rfl) trivial) ⟨trivial,⟨⟨rfl,rfl⟩,⟨rfl,rfl⟩,⟨rfl,rfl⟩,rfl,rfl,trivial⟩,trivial,⟨⟨rfl,rfl⟩,⟨rfl,rfl⟩,⟨rfl,rfl⟩,rfl,rfl,trivial⟩,trivial,⟨rfl,⟨rfl,rfl⟩,⟨rfl,rfl⟩,trivial⟩,⟨?_,nP⟩,trivial⟩;show List.replicate (j+1) ((0:Int),(0:Int))++[(0,0)]=List.replicate (j+1+1) (0,0);rw[List.replicate_succ' (n:=j+1)]
   ·have hn0:n=j+1:=by have q2:decide ((0:Int)<(n:Nat)-((j+1:Nat):Int))=false:=q1;simp at q2;omega
    refine fin [(10001,20001)] (aI ?_ ?_)
    ·rfl
    ·refine⟨trivial,⟨rfl,⟨rfl,rfl⟩,⟨rfl,rfl⟩,trivial⟩,⟨?_,nP⟩,trivial⟩;show List.replicate (j+1) ((0:Int),(0:Int))=List.replicate n (0,0);rw[hn0]
 |false=>
  refine aH.intro (nt:=106) aS mixed iC Try.func59 rfl rfl rfl rfl rfl rfl ?_;refine Or.inl (eI _ (aI hp ?_));refine Or.inl (eI _ (aI (fI k) ?_));refine aI (fun q=>by rw[hlv]at q;cases q) (fun _=> ?_);refine aI (fun q=>by have q:(k==6)=true:=q;rw[h6]at q;cases q) (fun _=> ?_);refine aI (fun q=>by have q:(k==7)=true:=q;rw[h7]at q;cases q) (fun _=> ?_);refine aI (fun q=>by have q:(k==8)=true:=q;rw[h8]at q;cases q) (fun _=> ?_);refine aI (fun q=>by have q:(k==9)=true:=q;rw[h9]at q;cases q) (fun _=> ?_);refine aI (fun _=> ?_) (fun q=>by have q:(k==12)=false:=q;rw[h12]at q;cases q)
  refine Or.inr (eI _ (eI _ (aI (bC code d hb (by omega) 4) ?_)));refine lp Nat (fun j=>[(10,.int .i64 ((n:Nat)-(j:Nat)))]) (fun j=>match j with|0=>[.aN 6 34 [.int .i64 0,.int .i64 0,.int .i64 0,.raw (.slice none 0 0),.raw (.slice none 0 0)],.aN 7 34 [.int .i64 k,.int .i64 0,.int .i64 (pk code d 4).1,.raw (.slice none 0 0),.raw (.slice none 0 0)],.aN 10000 69 [.rsl aU code,.int .i64 (((pk code d 4).2).k:Nat),.int .u64 ((pk code d 4).2).s]]|j+1=>[.aN 6 34 [.int .i64 0,.int .i64 0,.int .i64 0,.raw (.slice none 0 0),.raw (.slice none 0 0)],.aN 7 34 [.int .i64 k,.int .i64 0,.int .i64 (pk code d 4).1,.raw (.slice none 0 0),.sl 20001],.aN 10000 69 [.rsl aU code,.int .i64 (((pk code d 4).2).k:Nat),.int .u64 ((pk code d 4).2).s],.row 20001 36 2 aO (List.replicate (j+1) (0,0)) []]) (fun j=>n-j) (fun j=>j≤n) 0 (Nat.zero_le _) ?_ ?_
  ·exact Go.Tr.hd [] rfl (aI (aI (Int.sub_zero _).symm rfl) trivial) ⟨trivial,⟨⟨rfl,rfl⟩,⟨rfl,rfl⟩,⟨rfl,rfl⟩,rfl,rfl,trivial⟩,trivial,⟨⟨rfl,rfl⟩,⟨rfl,rfl⟩,⟨rfl,rfl⟩,rfl,rfl,trivial⟩,trivial,⟨rfl,⟨rfl,rfl⟩,⟨rfl,rfl⟩,trivial⟩,trivial⟩
  intro j hj;have hj:j≤n:=hj;have hwr:IntKind.i64.wrap ((n:Nat)-(j:Nat)-1)=(n:Nat)-((j+1:Nat):Int):=by rw[IntWalk.i64_in _ (by omega)];omega
  cases j with
  |zero=>
   refine aI (fun q1=> ?_) (fun q1=> ?_)
   ·have hlt:0<n:=by omega
    refine aI (by show 1≤1073741824;omega) ?_;refine aJ 1 (by omega) ?_ (show n-1<n-0 by omega);exact Go.Tr.hd [(20001,103)] rfl (aI (aI hwr rfl) trivial) ⟨trivial,⟨⟨rfl,rfl⟩,⟨rfl,rfl⟩,⟨rfl,rfl⟩,rfl,rfl,trivial⟩,trivial,⟨⟨rfl,rfl⟩,⟨rfl,rfl⟩,⟨rfl,rfl⟩,rfl,rfl,trivial⟩,trivial,⟨rfl,⟨rfl,rfl⟩,⟨rfl,rfl⟩,trivial⟩,⟨rfl,nP⟩,trivial⟩
   ·exfalso;have q2:decide ((0:Int)<(n:Nat)-((0:Nat):Int))=false:=q1;simp at q2;omega
  |succ j=>
   refine aI (fun q1=> ?_) (fun q1=> ?_)
   ·have hlt:j+1<n:=by have q2:decide ((0:Int)<(n:Nat)-((j+1:Nat):Int))=true:=q1;simp at q2;omega
    refine aI (by show(List.replicate (j+1) ((0:Int),(0:Int))).length+1≤1073741824;rw[List.length_replicate];omega) ?_;refine aJ (j+2) (by omega) ?_ (show n-(j+2)<n-(j+1) by omega);refine Go.Tr.hd [(20001,103)] rfl (aI (aI hwr rfl) trivial) ⟨trivial,⟨⟨rfl,rfl⟩,⟨rfl,rfl⟩,⟨rfl,rfl⟩,rfl,rfl,trivial⟩,trivial,⟨⟨rfl,rfl⟩,⟨rfl,rfl⟩,⟨rfl,rfl⟩,rfl,rfl,trivial⟩,trivial,⟨rfl,⟨rfl,rfl⟩,⟨rfl,rfl⟩,trivial⟩,⟨?_,nP⟩,trivial⟩;show List.replicate (j+1) ((0:Int),(0:Int))++[(0,0)]=List.replicate (j+1+1) (0,0);rw[List.replicate_succ' (n:=j+1)]
   ·have hn0:n=j+1:=by have q2:decide ((0:Int)<(n:Nat)-((j+1:Nat):Int))=false:=q1;simp at q2;omega
    refine fin [(10001,20001)] (aI ?_ ?_)
    ·rfl
    ·refine⟨trivial,⟨rfl,⟨rfl,rfl⟩,⟨rfl,rfl⟩,trivial⟩,⟨?_,nP⟩,trivial⟩;show List.replicate (j+1) ((0:Int),(0:Int))=List.replicate n (0,0);rw[hn0]
theorem MN(code:List Int)(d:DS)(hb:Bytes code)(hd:d.k≤99999900)(k lv:Int)(hk:dz k=true)(h6:(k==6)=true)(hq:((pk code (pk code d 5).2 6).1==0)=false):yN code d k lv:=by
 have h6:=h6;have hk6:k=6:=by simpa using h6
 have h9n:k≠9:=by omega
 obtain⟨n,hn1,hn2,hn3,hn4⟩:=jC hk h9n;have hp:=Bj k 0;rw[hn3]at hp;have p1:=eO code d 5;have p2:=iy hb d 5;have p3:=dP hb d (n:=5) (by decide);have p4:=eO code (pk code d 5).2 6;refine⟨(k,(bif bn k then lv else 0),(IntKind.i64.wrap ((pk code d 5).1-1)),[],List.replicate n (0,0)),(pk code (pk code d 5).2 6).2,⟨rfl,rfl,?_,?_,⟨n,hn1,hn2,rfl,hn4⟩⟩,?_,Or.inl ⟨rfl,?_⟩⟩
 ·show bg ⟨k,_,(IntKind.i64.wrap ((pk code d 5).1-1)),[],_⟩=true;rw[IntWalk.i64_in _ (by omega)];simp only[bg,h6];have:kK ((pk code d 5).1-1)=true:=kU (by omega);simp[this]
 ·exact Nat.zero_le _
 ·omega
 cases hlv:bn k with
 |true=>
  refine aH.intro (nt:=106) aS mixed iC Try.func59 rfl rfl rfl rfl rfl rfl ?_;refine Or.inl (eI _ (aI hp ?_));refine Or.inl (eI _ (aI (fI k) ?_));refine aI (fun _=> ?_) (fun q=>by rw[hlv]at q;cases q);refine aI (fun _=> ?_) (fun q=>by have q:(k==6)=false:=q;rw[h6]at q;cases q);refine Or.inr (eI _ (eI _ (aI (bC code d hb (by omega) 5) ?_)));refine Or.inr (eI _ (eI _ (aI (KG code (pk code d 5).2 hb (by omega) 6) ?_)));refine aI (fun q=>by have q:((pk code (pk code d 5).2 6).1==0)=true:=q;rw[hq]at q;cases q) (fun _=> ?_);refine lp Nat (fun j=>[(10,.int .i64 ((n:Nat)-(j:Nat)))]) (fun j=>match j with|0=>[.aN 6 34 [.int .i64 0,.int .i64 0,.int .i64 0,.raw (.slice none 0 0),.raw (.slice none 0 0)],.aN 7 34 [.int .i64 k,.int .i64 lv,.int .i64 (IntKind.i64.wrap ((pk code d 5).1-1)),.raw (.slice none 0 0),.raw (.slice none 0 0)],.aN 10000 69 [.rsl aU code,.int .i64 (((pk code (pk code d 5).2 6).2).k:Nat),.int .u64 ((pk code (pk code d 5).2 6).2).s]]|j+1=>[.aN 6 34 [.int .i64 0,.int .i64 0,.int .i64 0,.raw (.slice none 0 0),.raw (.slice none 0 0)],.aN 7 34 [.int .i64 k,.int .i64 lv,.int .i64 (IntKind.i64.wrap ((pk code d 5).1-1)),.raw (.slice none 0 0),.sl 20001],.aN 10000 69 [.rsl aU code,.int .i64 (((pk code (pk code d 5).2 6).2).k:Nat),.int .u64 ((pk code (pk code d 5).2 6).2).s],.row 20001 36 2 aO (List.replicate (j+1) (0,0)) []]) (fun j=>n-j) (fun j=>j≤n) 0 (Nat.zero_le _) ?_ ?_
  ·exact Go.Tr.hd [] rfl (aI (aI (Int.sub_zero _).symm rfl) trivial) ⟨trivial,⟨⟨rfl,rfl⟩,⟨rfl,rfl⟩,⟨rfl,rfl⟩,rfl,rfl,trivial⟩,trivial,⟨⟨rfl,rfl⟩,⟨rfl,rfl⟩,⟨rfl,rfl⟩,rfl,rfl,trivial⟩,trivial,⟨rfl,⟨rfl,rfl⟩,⟨rfl,rfl⟩,trivial⟩,trivial⟩
  intro j hj;have hj:j≤n:=hj;have hwr:IntKind.i64.wrap ((n:Nat)-(j:Nat)-1)=(n:Nat)-((j+1:Nat):Int):=by rw[IntWalk.i64_in _ (by omega)];omega
  cases j with
  |zero=>
   refine aI (fun q1=> ?_) (fun q1=> ?_)
   ·have hlt:0<n:=by omega
    refine aI (by show 1≤1073741824;omega) ?_;refine aJ 1 (by omega) ?_ (show n-1<n-0 by omega);exact Go.Tr.hd [(20001,103)] rfl (aI (aI hwr rfl) trivial) ⟨trivial,⟨⟨rfl,rfl⟩,⟨rfl,rfl⟩,⟨rfl,rfl⟩,rfl,rfl,trivial⟩,trivial,⟨⟨rfl,rfl⟩,⟨rfl,rfl⟩,⟨rfl,rfl⟩,rfl,rfl,trivial⟩,trivial,⟨rfl,⟨rfl,rfl⟩,⟨rfl,rfl⟩,trivial⟩,⟨rfl,nP⟩,trivial⟩
   ·exfalso;have q2:decide ((0:Int)<(n:Nat)-((0:Nat):Int))=false:=q1;simp at q2;omega
  |succ j=>
   refine aI (fun q1=> ?_) (fun q1=> ?_)
   ·have hlt:j+1<n:=by have q2:decide ((0:Int)<(n:Nat)-((j+1:Nat):Int))=true:=q1;simp at q2;omega
    refine aI (by show(List.replicate (j+1) ((0:Int),(0:Int))).length+1≤1073741824;rw[List.length_replicate];omega) ?_;refine aJ (j+2) (by omega) ?_ (show n-(j+2)<n-(j+1) by omega);refine Go.Tr.hd [(20001,103)] rfl (aI (aI hwr rfl) trivial) ⟨trivial,⟨⟨rfl,rfl⟩,⟨rfl,rfl⟩,⟨rfl,rfl⟩,rfl,rfl,trivial⟩,trivial,⟨⟨rfl,rfl⟩,⟨rfl,rfl⟩,⟨rfl,rfl⟩,rfl,rfl,trivial⟩,trivial,⟨rfl,⟨rfl,rfl⟩,⟨rfl,rfl⟩,trivial⟩,⟨?_,nP⟩,trivial⟩;show List.replicate (j+1) ((0:Int),(0:Int))++[(0,0)]=List.replicate (j+1+1) (0,0);rw[List.replicate_succ' (n:=j+1)]
   ·have hn0:n=j+1:=by have q2:decide ((0:Int)<(n:Nat)-((j+1:Nat):Int))=false:=q1;simp at q2;omega
    refine fin [(10001,20001)] (aI ?_ ?_)
    ·rfl
    ·refine⟨trivial,⟨rfl,⟨rfl,rfl⟩,⟨rfl,rfl⟩,trivial⟩,⟨?_,nP⟩,trivial⟩;show List.replicate (j+1) ((0:Int),(0:Int))=List.replicate n (0,0);rw[hn0]
 |false=>
  refine aH.intro (nt:=106) aS mixed iC Try.func59 rfl rfl rfl rfl rfl rfl ?_;refine Or.inl (eI _ (aI hp ?_));refine Or.inl (eI _ (aI (fI k) ?_));refine aI (fun q=>by rw[hlv]at q;cases q) (fun _=> ?_);refine aI (fun _=> ?_) (fun q=>by have q:(k==6)=false:=q;rw[h6]at q;cases q);refine Or.inr (eI _ (eI _ (aI (bC code d hb (by omega) 5) ?_)));refine Or.inr (eI _ (eI _ (aI (KG code (pk code d 5).2 hb (by omega) 6) ?_)));refine aI (fun q=>by have q:((pk code (pk code d 5).2 6).1==0)=true:=q;rw[hq]at q;cases q) (fun _=> ?_);refine lp Nat (fun j=>[(10,.int .i64 ((n:Nat)-(j:Nat)))]) (fun j=>match j with|0=>[.aN 6 34 [.int .i64 0,.int .i64 0,.int .i64 0,.raw (.slice none 0 0),.raw (.slice none 0 0)],.aN 7 34 [.int .i64 k,.int .i64 0,.int .i64 (IntKind.i64.wrap ((pk code d 5).1-1)),.raw (.slice none 0 0),.raw (.slice none 0 0)],.aN 10000 69 [.rsl aU code,.int .i64 (((pk code (pk code d 5).2 6).2).k:Nat),.int .u64 ((pk code (pk code d 5).2 6).2).s]]|j+1=>[.aN 6 34 [.int .i64 0,.int .i64 0,.int .i64 0,.raw (.slice none 0 0),.raw (.slice none 0 0)],.aN 7 34 [.int .i64 k,.int .i64 0,.int .i64 (IntKind.i64.wrap ((pk code d 5).1-1)),.raw (.slice none 0 0),.sl 20001],.aN 10000 69 [.rsl aU code,.int .i64 (((pk code (pk code d 5).2 6).2).k:Nat),.int .u64 ((pk code (pk code d 5).2 6).2).s],.row 20001 36 2 aO (List.replicate (j+1) (0,0)) []]) (fun j=>n-j) (fun j=>j≤n) 0 (Nat.zero_le _) ?_ ?_
  ·exact Go.Tr.hd [] rfl (aI (aI (Int.sub_zero _).symm rfl) trivial) ⟨trivial,⟨⟨rfl,rfl⟩,⟨rfl,rfl⟩,⟨rfl,rfl⟩,rfl,rfl,trivial⟩,trivial,⟨⟨rfl,rfl⟩,⟨rfl,rfl⟩,⟨rfl,rfl⟩,rfl,rfl,trivial⟩,trivial,⟨rfl,⟨rfl,rfl⟩,⟨rfl,rfl⟩,trivial⟩,trivial⟩
  intro j hj;have hj:j≤n:=hj;have hwr:IntKind.i64.wrap ((n:Nat)-(j:Nat)-1)=(n:Nat)-((j+1:Nat):Int):=by rw[IntWalk.i64_in _ (by omega)];omega
  cases j with
  |zero=>
   refine aI (fun q1=> ?_) (fun q1=> ?_)
   ·have hlt:0<n:=by omega
    refine aI (by show 1≤1073741824;omega) ?_;refine aJ 1 (by omega) ?_ (show n-1<n-0 by omega);exact Go.Tr.hd [(20001,103)] rfl (aI (aI hwr rfl) trivial) ⟨trivial,⟨⟨rfl,rfl⟩,⟨rfl,rfl⟩,⟨rfl,rfl⟩,rfl,rfl,trivial⟩,trivial,⟨⟨rfl,rfl⟩,⟨rfl,rfl⟩,⟨rfl,rfl⟩,rfl,rfl,trivial⟩,trivial,⟨rfl,⟨rfl,rfl⟩,⟨rfl,rfl⟩,trivial⟩,⟨rfl,nP⟩,trivial⟩
   ·exfalso;have q2:decide ((0:Int)<(n:Nat)-((0:Nat):Int))=false:=q1;simp at q2;omega
  |succ j=>
   refine aI (fun q1=> ?_) (fun q1=> ?_)
   ·have hlt:j+1<n:=by have q2:decide ((0:Int)<(n:Nat)-((j+1:Nat):Int))=true:=q1;simp at q2;omega
    refine aI (by show(List.replicate (j+1) ((0:Int),(0:Int))).length+1≤1073741824;rw[List.length_replicate];omega) ?_;refine aJ (j+2) (by omega) ?_ (show n-(j+2)<n-(j+1) by omega);refine Go.Tr.hd [(20001,103)] rfl (aI (aI hwr rfl) trivial) ⟨trivial,⟨⟨rfl,rfl⟩,⟨rfl,rfl⟩,⟨rfl,rfl⟩,rfl,rfl,trivial⟩,trivial,⟨⟨rfl,rfl⟩,⟨rfl,rfl⟩,⟨rfl,rfl⟩,rfl,rfl,trivial⟩,trivial,⟨rfl,⟨rfl,rfl⟩,⟨rfl,rfl⟩,trivial⟩,⟨?_,nP⟩,trivial⟩;show List.replicate (j+1) ((0:Int),(0:Int))++[(0,0)]=List.replicate (j+1+1) (0,0);rw[List.replicate_succ' (n:=j+1)]
   ·have hn0:n=j+1:=by have q2:decide ((0:Int)<(n:Nat)-((j+1:Nat):Int))=false:=q1;simp at q2;omega
    refine fin [(10001,20001)] (aI ?_ ?_)
    ·rfl
    ·refine⟨trivial,⟨rfl,⟨rfl,rfl⟩,⟨rfl,rfl⟩,trivial⟩,⟨?_,nP⟩,trivial⟩;show List.replicate (j+1) ((0:Int),(0:Int))=List.replicate n (0,0);rw[hn0]
theorem MO(code:List Int)(d:DS)(hb:Bytes code)(hd:d.k≤99999900)(k lv:Int)(hk:dz k=true)(h6:(k==6)=true)(hq:((pk code (pk code d 5).2 6).1==0)=true):yN code d k lv:=by
 have h6:=h6;have hk6:k=6:=by simpa using h6
 have h9n:k≠9:=by omega
 obtain⟨n,hn1,hn2,hn3,hn4⟩:=jC hk h9n;have hp:=Bj k 0;rw[hn3]at hp;have p1:=eO code d 5;have p2:=iy hb d 5;have p3:=dP hb d (n:=5) (by decide);have p4:=eO code (pk code d 5).2 6;have p5:=eO code (pk code (pk code d 5).2 6).2 (4:Nat);have p6:=iy hb (pk code (pk code d 5).2 6).2 (4:Nat);have p7:=dP hb (pk code (pk code d 5).2 6).2 (n:=(4:Nat)) (by decide)
 have hx:∀y:Int,0≤y→y<4→kK (elt (0:Int) [-2147483648,2147483647, -7,1000] y)=true:=fun y a1 a2=>by
  have:y=0∨y=1∨y=2∨y=3:=by omega
  rcases this with rfl|rfl|rfl|rfl<;>decide
 refine⟨(k,(bif bn k then lv else 0),(elt (0:Int) [-2147483648,2147483647, -7,1000] (pk code (pk code (pk code d 5).2 6).2 (4:Nat)).1),[],List.replicate n (0,0)),(pk code (pk code (pk code d 5).2 6).2 (4:Nat)).2,⟨rfl,rfl,?_,?_,⟨n,hn1,hn2,rfl,hn4⟩⟩,?_,Or.inl ⟨rfl,?_⟩⟩
 ·show bg ⟨k,_,(elt (0:Int) [-2147483648,2147483647, -7,1000] (pk code (pk code (pk code d 5).2 6).2 (4:Nat)).1),[],_⟩=true;simp only[bg,h6];have:=hx _ p6 p7;simpa using this
 ·exact Nat.zero_le _
 ·omega
 cases hlv:bn k with
 |true=>
  refine aH.intro (nt:=106) aS mixed iC Try.func59 rfl rfl rfl rfl rfl rfl ?_;refine Or.inl (eI _ (aI hp ?_));refine Or.inl (eI _ (aI (fI k) ?_));refine aI (fun _=> ?_) (fun q=>by rw[hlv]at q;cases q);refine aI (fun _=> ?_) (fun q=>by have q:(k==6)=false:=q;rw[h6]at q;cases q);refine Or.inr (eI _ (eI _ (aI (bC code d hb (by omega) 5) ?_)));refine Or.inr (eI _ (eI _ (aI (KG code (pk code d 5).2 hb (by omega) 6) ?_)));refine aI (fun _=> ?_) (fun q=>by have q:((pk code (pk code d 5).2 6).1==0)=false:=q;rw[hq]at q;cases q);refine Or.inr (eI _ (eI _ (aI (tZ code (pk code (pk code d 5).2 6).2 hb (by omega) [-2147483648,2147483647, -7,1000] (by decide) (by decide)) ?_)))
  refine lp Nat (fun j=>[(10,.int .i64 ((n:Nat)-(j:Nat)))]) (fun j=>match j with|0=>[.aN 6 34 [.int .i64 0,.int .i64 0,.int .i64 0,.raw (.slice none 0 0),.raw (.slice none 0 0)],.aN 7 34 [.int .i64 k,.int .i64 lv,.int .i64 (elt (0:Int) [-2147483648,2147483647, -7,1000] (pk code (pk code (pk code d 5).2 6).2 (4:Nat)).1),.raw (.slice none 0 0),.raw (.slice none 0 0)],.aN 10000 69 [.rsl aU code,.int .i64 (((pk code (pk code (pk code d 5).2 6).2 (4:Nat)).2).k:Nat),.int .u64 ((pk code (pk code (pk code d 5).2 6).2 (4:Nat)).2).s]]|j+1=>[.aN 6 34 [.int .i64 0,.int .i64 0,.int .i64 0,.raw (.slice none 0 0),.raw (.slice none 0 0)],.aN 7 34 [.int .i64 k,.int .i64 lv,.int .i64 (elt (0:Int) [-2147483648,2147483647, -7,1000] (pk code (pk code (pk code d 5).2 6).2 (4:Nat)).1),.raw (.slice none 0 0),.sl 20001],.aN 10000 69 [.rsl aU code,.int .i64 (((pk code (pk code (pk code d 5).2 6).2 (4:Nat)).2).k:Nat),.int .u64 ((pk code (pk code (pk code d 5).2 6).2 (4:Nat)).2).s],.row 20001 36 2 aO (List.replicate (j+1) (0,0)) []]) (fun j=>n-j) (fun j=>j≤n) 0 (Nat.zero_le _) ?_ ?_
  ·exact Go.Tr.hd [] rfl (aI (aI (Int.sub_zero _).symm rfl) trivial) ⟨trivial,⟨⟨rfl,rfl⟩,⟨rfl,rfl⟩,⟨rfl,rfl⟩,rfl,rfl,trivial⟩,trivial,⟨⟨rfl,rfl⟩,⟨rfl,rfl⟩,⟨rfl,rfl⟩,rfl,rfl,trivial⟩,trivial,⟨rfl,⟨rfl,rfl⟩,⟨rfl,rfl⟩,trivial⟩,trivial⟩
  intro j hj;have hj:j≤n:=hj;have hwr:IntKind.i64.wrap ((n:Nat)-(j:Nat)-1)=(n:Nat)-((j+1:Nat):Int):=by rw[IntWalk.i64_in _ (by omega)];omega
  cases j with
  |zero=>
   refine aI (fun q1=> ?_) (fun q1=> ?_)
   ·have hlt:0<n:=by omega
    refine aI (by show 1≤1073741824;omega) ?_;refine aJ 1 (by omega) ?_ (show n-1<n-0 by omega);exact Go.Tr.hd [(20001,103)] rfl (aI (aI hwr rfl) trivial) ⟨trivial,⟨⟨rfl,rfl⟩,⟨rfl,rfl⟩,⟨rfl,rfl⟩,rfl,rfl,trivial⟩,trivial,⟨⟨rfl,rfl⟩,⟨rfl,rfl⟩,⟨rfl,rfl⟩,rfl,rfl,trivial⟩,trivial,⟨rfl,⟨rfl,rfl⟩,⟨rfl,rfl⟩,trivial⟩,⟨rfl,nP⟩,trivial⟩
   ·exfalso;have q2:decide ((0:Int)<(n:Nat)-((0:Nat):Int))=false:=q1;simp at q2;omega
  |succ j=>
   refine aI (fun q1=> ?_) (fun q1=> ?_)
   ·have hlt:j+1<n:=by have q2:decide ((0:Int)<(n:Nat)-((j+1:Nat):Int))=true:=q1;simp at q2;omega
    refine aI (by show(List.replicate (j+1) ((0:Int),(0:Int))).length+1≤1073741824;rw[List.length_replicate];omega) ?_;refine aJ (j+2) (by omega) ?_ (show n-(j+2)<n-(j+1) by omega);refine Go.Tr.hd [(20001,103)] rfl (aI (aI hwr rfl) trivial) ⟨trivial,⟨⟨rfl,rfl⟩,⟨rfl,rfl⟩,⟨rfl,rfl⟩,rfl,rfl,trivial⟩,trivial,⟨⟨rfl,rfl⟩,⟨rfl,rfl⟩,⟨rfl,rfl⟩,rfl,rfl,trivial⟩,trivial,⟨rfl,⟨rfl,rfl⟩,⟨rfl,rfl⟩,trivial⟩,⟨?_,nP⟩,trivial⟩;show List.replicate (j+1) ((0:Int),(0:Int))++[(0,0)]=List.replicate (j+1+1) (0,0);rw[List.replicate_succ' (n:=j+1)]
   ·have hn0:n=j+1:=by have q2:decide ((0:Int)<(n:Nat)-((j+1:Nat):Int))=false:=q1;simp at q2;omega
    refine fin [(10001,20001)] (aI ?_ ?_)
    ·rfl
    ·refine⟨trivial,⟨rfl,⟨rfl,rfl⟩,⟨rfl,rfl⟩,trivial⟩,⟨?_,nP⟩,trivial⟩;show List.replicate (j+1) ((0:Int),(0:Int))=List.replicate n (0,0);rw[hn0]
 |false=>
  refine aH.intro (nt:=106) aS mixed iC Try.func59 rfl rfl rfl rfl rfl rfl ?_;refine Or.inl (eI _ (aI hp ?_));refine Or.inl (eI _ (aI (fI k) ?_));refine aI (fun q=>by rw[hlv]at q;cases q) (fun _=> ?_);refine aI (fun _=> ?_) (fun q=>by have q:(k==6)=false:=q;rw[h6]at q;cases q);refine Or.inr (eI _ (eI _ (aI (bC code d hb (by omega) 5) ?_)));refine Or.inr (eI _ (eI _ (aI (KG code (pk code d 5).2 hb (by omega) 6) ?_)));refine aI (fun _=> ?_) (fun q=>by have q:((pk code (pk code d 5).2 6).1==0)=false:=q;rw[hq]at q;cases q);refine Or.inr (eI _ (eI _ (aI (tZ code (pk code (pk code d 5).2 6).2 hb (by omega) [-2147483648,2147483647, -7,1000] (by decide) (by decide)) ?_)))
  refine lp Nat (fun j=>[(10,.int .i64 ((n:Nat)-(j:Nat)))]) (fun j=>match j with|0=>[.aN 6 34 [.int .i64 0,.int .i64 0,.int .i64 0,.raw (.slice none 0 0),.raw (.slice none 0 0)],.aN 7 34 [.int .i64 k,.int .i64 0,.int .i64 (elt (0:Int) [-2147483648,2147483647, -7,1000] (pk code (pk code (pk code d 5).2 6).2 (4:Nat)).1),.raw (.slice none 0 0),.raw (.slice none 0 0)],.aN 10000 69 [.rsl aU code,.int .i64 (((pk code (pk code (pk code d 5).2 6).2 (4:Nat)).2).k:Nat),.int .u64 ((pk code (pk code (pk code d 5).2 6).2 (4:Nat)).2).s]]|j+1=>[.aN 6 34 [.int .i64 0,.int .i64 0,.int .i64 0,.raw (.slice none 0 0),.raw (.slice none 0 0)],.aN 7 34 [.int .i64 k,.int .i64 0,.int .i64 (elt (0:Int) [-2147483648,2147483647, -7,1000] (pk code (pk code (pk code d 5).2 6).2 (4:Nat)).1),.raw (.slice none 0 0),.sl 20001],.aN 10000 69 [.rsl aU code,.int .i64 (((pk code (pk code (pk code d 5).2 6).2 (4:Nat)).2).k:Nat),.int .u64 ((pk code (pk code (pk code d 5).2 6).2 (4:Nat)).2).s],.row 20001 36 2 aO (List.replicate (j+1) (0,0)) []]) (fun j=>n-j) (fun j=>j≤n) 0 (Nat.zero_le _) ?_ ?_
  ·exact Go.Tr.hd [] rfl (aI (aI (Int.sub_zero _).symm rfl) trivial) ⟨trivial,⟨⟨rfl,rfl⟩,⟨rfl,rfl⟩,⟨rfl,rfl⟩,rfl,rfl,trivial⟩,trivial,⟨⟨rfl,rfl⟩,⟨rfl,rfl⟩,⟨rfl,rfl⟩,rfl,rfl,trivial⟩,trivial,⟨rfl,⟨rfl,rfl⟩,⟨rfl,rfl⟩,trivial⟩,trivial⟩
  intro j hj;have hj:j≤n:=hj;have hwr:IntKind.i64.wrap ((n:Nat)-(j:Nat)-1)=(n:Nat)-((j+1:Nat):Int):=by rw[IntWalk.i64_in _ (by omega)];omega
  cases j with
  |zero=>
   refine aI (fun q1=> ?_) (fun q1=> ?_)
   ·have hlt:0<n:=by omega
    refine aI (by show 1≤1073741824;omega) ?_;refine aJ 1 (by omega) ?_ (show n-1<n-0 by omega);exact Go.Tr.hd [(20001,103)] rfl (aI (aI hwr rfl) trivial) ⟨trivial,⟨⟨rfl,rfl⟩,⟨rfl,rfl⟩,⟨rfl,rfl⟩,rfl,rfl,trivial⟩,trivial,⟨⟨rfl,rfl⟩,⟨rfl,rfl⟩,⟨rfl,rfl⟩,rfl,rfl,trivial⟩,trivial,⟨rfl,⟨rfl,rfl⟩,⟨rfl,rfl⟩,trivial⟩,⟨rfl,nP⟩,trivial⟩
   ·exfalso;have q2:decide ((0:Int)<(n:Nat)-((0:Nat):Int))=false:=q1;simp at q2;omega
  |succ j=>
   refine aI (fun q1=> ?_) (fun q1=> ?_)
   ·have hlt:j+1<n:=by have q2:decide ((0:Int)<(n:Nat)-((j+1:Nat):Int))=true:=q1;simp at q2;omega
    refine aI (by show(List.replicate (j+1) ((0:Int),(0:Int))).length+1≤1073741824;rw[List.length_replicate];omega) ?_;refine aJ (j+2) (by omega) ?_ (show n-(j+2)<n-(j+1) by omega);refine Go.Tr.hd [(20001,103)] rfl (aI (aI hwr rfl) trivial) ⟨trivial,⟨⟨rfl,rfl⟩,⟨rfl,rfl⟩,⟨rfl,rfl⟩,rfl,rfl,trivial⟩,trivial,⟨⟨rfl,rfl⟩,⟨rfl,rfl⟩,⟨rfl,rfl⟩,rfl,rfl,trivial⟩,trivial,⟨rfl,⟨rfl,rfl⟩,⟨rfl,rfl⟩,trivial⟩,⟨?_,nP⟩,trivial⟩;show List.replicate (j+1) ((0:Int),(0:Int))++[(0,0)]=List.replicate (j+1+1) (0,0);rw[List.replicate_succ' (n:=j+1)]
   ·have hn0:n=j+1:=by have q2:decide ((0:Int)<(n:Nat)-((j+1:Nat):Int))=false:=q1;simp at q2;omega
    refine fin [(10001,20001)] (aI ?_ ?_)
    ·rfl
    ·refine⟨trivial,⟨rfl,⟨rfl,rfl⟩,⟨rfl,rfl⟩,trivial⟩,⟨?_,nP⟩,trivial⟩;show List.replicate (j+1) ((0:Int),(0:Int))=List.replicate n (0,0);rw[hn0]
theorem Pk(code:List Int)(d:DS)(hb:Bytes code)(hd:d.k≤99999900)(k lv:Int)(hk:dz k=true)(h6:(k==6)=false)(h7:(k==7)=false)(h8:(k==8)=true):yN code d k lv:=by
 have hk8:k=8:=by simpa using h8
 have h9n:k≠9:=by omega
 obtain⟨n,hn1,hn2,hn3,hn4⟩:=jC hk h9n;have hp:=Bj k 0;rw[hn3]at hp;have p1:=eO code d 6;have p2:=iy hb d 6;have p3:=dP hb d (n:=6) (by decide);have p4:=eO code (pk code d 6).2 9;have p5:=iy hb (pk code d 6).2 9;have p6:=dP hb (pk code d 6).2 (n:=9) (by decide);refine⟨(k,(bif bn k then lv else 0),(IntKind.i64.wrap (1+(pk code d 6).1)),[IntKind.i64.wrap ((pk code (pk code d 6).2 9).1-4)],List.replicate n (0,0)),(pk code (pk code d 6).2 9).2,⟨rfl,rfl,?_,?_,⟨n,hn1,hn2,rfl,hn4⟩⟩,?_,Or.inr ?_⟩
 ·show bg ⟨k,_,(IntKind.i64.wrap (1+(pk code d 6).1)),[IntKind.i64.wrap ((pk code (pk code d 6).2 9).1-4)],_⟩=true;rw[IntWalk.i64_in _ (by omega),IntWalk.i64_in _ (by omega)];simp only[bg,h6,h7,h8];have e1:iI (1+(pk code d 6).1)=true:=kU (by omega);have e2:kK ((pk code (pk code d 6).2 9).1-4)=true:=kU (by omega);simp[e1,e2,eT]
 ·show(1:Nat)≤4;omega
 ·omega
 cases hlv:bn k with
 |true=>
  refine aH.intro (nt:=106) aS mixed iC Try.func59 rfl rfl rfl rfl rfl rfl ?_;refine Or.inl (eI _ (aI hp ?_));refine Or.inl (eI _ (aI (fI k) ?_));refine aI (fun _=> ?_) (fun q=>by rw[hlv]at q;cases q);refine aI (fun q=>by have q:(k==6)=true:=q;rw[h6]at q;cases q) (fun _=> ?_);refine aI (fun q=>by have q:(k==7)=true:=q;rw[h7]at q;cases q) (fun _=> ?_);refine aI (fun _=> ?_) (fun q=>by have q:(k==8)=false:=q;rw[h8]at q;cases q);refine Or.inr (eI _ (eI _ (aI (bC code d hb (by omega) 6) ?_)));refine Or.inr (eI _ (eI _ (aI (bC code (pk code d 6).2 hb (by omega) 9) ?_)))
  refine aI (by show 1≤1073741824;omega) ?_;refine aI (by kernel_rfl) ?_;refine lp Nat (fun j=>[(10,.int .i64 ((n:Nat)-(j:Nat)))]) (fun j=>match j with|0=>[.aN 6 34 [.int .i64 0,.int .i64 0,.int .i64 0,.raw (.slice none 0 0),.raw (.slice none 0 0)],.aN 7 34 [.int .i64 k,.int .i64 lv,.int .i64 (IntKind.i64.wrap (1+(pk code d 6).1)),.sl 50,.raw (.slice none 0 0)],.aN 10000 69 [.rsl aU code,.int .i64 (((pk code (pk code d 6).2 9).2).k:Nat),.int .u64 ((pk code (pk code d 6).2 9).2).s],.row 50 2 1 (.int .i64) [IntKind.i64.wrap ((pk code (pk code d 6).2 9).1-4)] []]|j+1=>[.aN 6 34 [.int .i64 0,.int .i64 0,.int .i64 0,.raw (.slice none 0 0),.raw (.slice none 0 0)],.aN 7 34 [.int .i64 k,.int .i64 lv,.int .i64 (IntKind.i64.wrap (1+(pk code d 6).1)),.sl 50,.sl 20001],.aN 10000 69 [.rsl aU code,.int .i64 (((pk code (pk code d 6).2 9).2).k:Nat),.int .u64 ((pk code (pk code d 6).2 9).2).s],.row 50 2 1 (.int .i64) [IntKind.i64.wrap ((pk code (pk code d 6).2 9).1-4)] [],.row 20001 36 2 aO (List.replicate (j+1) (0,0)) []]) (fun j=>n-j) (fun j=>j≤n) 0 (Nat.zero_le _) ?_ ?_
  ·exact Go.Tr.hd [] rfl (aI (aI (Int.sub_zero _).symm rfl) trivial) ⟨trivial,⟨⟨rfl,rfl⟩,⟨rfl,rfl⟩,⟨rfl,rfl⟩,rfl,rfl,trivial⟩,trivial,⟨⟨rfl,rfl⟩,⟨rfl,rfl⟩,⟨rfl,rfl⟩,rfl,rfl,trivial⟩,trivial,⟨rfl,⟨rfl,rfl⟩,⟨rfl,rfl⟩,trivial⟩,⟨rfl,nP⟩,trivial⟩
  intro j hj;have hj:j≤n:=hj;have hwr:IntKind.i64.wrap ((n:Nat)-(j:Nat)-1)=(n:Nat)-((j+1:Nat):Int):=by rw[IntWalk.i64_in _ (by omega)];omega
  cases j with
  |zero=>
   refine aI (fun q1=> ?_) (fun q1=> ?_)
   ·have hlt:0<n:=by omega
    refine aI (by show 1≤1073741824;omega) ?_;refine aJ 1 (by omega) ?_ (show n-1<n-0 by omega);exact Go.Tr.hd [(20001,103)] rfl (aI (aI hwr rfl) trivial) ⟨trivial,⟨⟨rfl,rfl⟩,⟨rfl,rfl⟩,⟨rfl,rfl⟩,rfl,rfl,trivial⟩,trivial,⟨⟨rfl,rfl⟩,⟨rfl,rfl⟩,⟨rfl,rfl⟩,rfl,rfl,trivial⟩,trivial,⟨rfl,⟨rfl,rfl⟩,⟨rfl,rfl⟩,trivial⟩,⟨rfl,nP⟩,⟨rfl,nP⟩,trivial⟩
   ·exfalso;have q2:decide ((0:Int)<(n:Nat)-((0:Nat):Int))=false:=q1;simp at q2;omega
  |succ j=>
   refine aI (fun q1=> ?_) (fun q1=> ?_)
   ·have hlt:j+1<n:=by have q2:decide ((0:Int)<(n:Nat)-((j+1:Nat):Int))=true:=q1;simp at q2;omega
    refine aI (by show(List.replicate (j+1) ((0:Int),(0:Int))).length+1≤1073741824;rw[List.length_replicate];omega) ?_;refine aJ (j+2) (by omega) ?_ (show n-(j+2)<n-(j+1) by omega);refine Go.Tr.hd [(20001,103)] rfl (aI (aI hwr rfl) trivial) ⟨trivial,⟨⟨rfl,rfl⟩,⟨rfl,rfl⟩,⟨rfl,rfl⟩,rfl,rfl,trivial⟩,trivial,⟨⟨rfl,rfl⟩,⟨rfl,rfl⟩,⟨rfl,rfl⟩,rfl,rfl,trivial⟩,trivial,⟨rfl,⟨rfl,rfl⟩,⟨rfl,rfl⟩,trivial⟩,⟨rfl,nP⟩,⟨?_,nP⟩,trivial⟩;show List.replicate (j+1) ((0:Int),(0:Int))++[(0,0)]=List.replicate (j+1+1) (0,0);rw[List.replicate_succ' (n:=j+1)]
   ·have hn0:n=j+1:=by have q2:decide ((0:Int)<(n:Nat)-((j+1:Nat):Int))=false:=q1;simp at q2;omega
    refine fin [(10001,50),(10002,20001)] (aI ?_ ?_)
    ·rfl
    ·refine⟨trivial,⟨rfl,⟨rfl,rfl⟩,⟨rfl,rfl⟩,trivial⟩,⟨rfl,nP⟩,⟨?_,nP⟩,trivial⟩;show List.replicate (j+1) ((0:Int),(0:Int))=List.replicate n (0,0);rw[hn0]
 |false=>
  refine aH.intro (nt:=106) aS mixed iC Try.func59 rfl rfl rfl rfl rfl rfl ?_;refine Or.inl (eI _ (aI hp ?_));refine Or.inl (eI _ (aI (fI k) ?_));refine aI (fun q=>by rw[hlv]at q;cases q) (fun _=> ?_);refine aI (fun q=>by have q:(k==6)=true:=q;rw[h6]at q;cases q) (fun _=> ?_);refine aI (fun q=>by have q:(k==7)=true:=q;rw[h7]at q;cases q) (fun _=> ?_);refine aI (fun _=> ?_) (fun q=>by have q:(k==8)=false:=q;rw[h8]at q;cases q);refine Or.inr (eI _ (eI _ (aI (bC code d hb (by omega) 6) ?_)));refine Or.inr (eI _ (eI _ (aI (bC code (pk code d 6).2 hb (by omega) 9) ?_)))
  refine aI (by show 1≤1073741824;omega) ?_;refine aI (by kernel_rfl) ?_;refine lp Nat (fun j=>[(10,.int .i64 ((n:Nat)-(j:Nat)))]) (fun j=>match j with|0=>[.aN 6 34 [.int .i64 0,.int .i64 0,.int .i64 0,.raw (.slice none 0 0),.raw (.slice none 0 0)],.aN 7 34 [.int .i64 k,.int .i64 0,.int .i64 (IntKind.i64.wrap (1+(pk code d 6).1)),.sl 50,.raw (.slice none 0 0)],.aN 10000 69 [.rsl aU code,.int .i64 (((pk code (pk code d 6).2 9).2).k:Nat),.int .u64 ((pk code (pk code d 6).2 9).2).s],.row 50 2 1 (.int .i64) [IntKind.i64.wrap ((pk code (pk code d 6).2 9).1-4)] []]|j+1=>[.aN 6 34 [.int .i64 0,.int .i64 0,.int .i64 0,.raw (.slice none 0 0),.raw (.slice none 0 0)],.aN 7 34 [.int .i64 k,.int .i64 0,.int .i64 (IntKind.i64.wrap (1+(pk code d 6).1)),.sl 50,.sl 20001],.aN 10000 69 [.rsl aU code,.int .i64 (((pk code (pk code d 6).2 9).2).k:Nat),.int .u64 ((pk code (pk code d 6).2 9).2).s],.row 50 2 1 (.int .i64) [IntKind.i64.wrap ((pk code (pk code d 6).2 9).1-4)] [],.row 20001 36 2 aO (List.replicate (j+1) (0,0)) []]) (fun j=>n-j) (fun j=>j≤n) 0 (Nat.zero_le _) ?_ ?_
  ·exact Go.Tr.hd [] rfl (aI (aI (Int.sub_zero _).symm rfl) trivial) ⟨trivial,⟨⟨rfl,rfl⟩,⟨rfl,rfl⟩,⟨rfl,rfl⟩,rfl,rfl,trivial⟩,trivial,⟨⟨rfl,rfl⟩,⟨rfl,rfl⟩,⟨rfl,rfl⟩,rfl,rfl,trivial⟩,trivial,⟨rfl,⟨rfl,rfl⟩,⟨rfl,rfl⟩,trivial⟩,⟨rfl,nP⟩,trivial⟩
  intro j hj;have hj:j≤n:=hj;have hwr:IntKind.i64.wrap ((n:Nat)-(j:Nat)-1)=(n:Nat)-((j+1:Nat):Int):=by rw[IntWalk.i64_in _ (by omega)];omega
  cases j with
  |zero=>
   refine aI (fun q1=> ?_) (fun q1=> ?_)
   ·have hlt:0<n:=by omega
    refine aI (by show 1≤1073741824;omega) ?_;refine aJ 1 (by omega) ?_ (show n-1<n-0 by omega);exact Go.Tr.hd [(20001,103)] rfl (aI (aI hwr rfl) trivial) ⟨trivial,⟨⟨rfl,rfl⟩,⟨rfl,rfl⟩,⟨rfl,rfl⟩,rfl,rfl,trivial⟩,trivial,⟨⟨rfl,rfl⟩,⟨rfl,rfl⟩,⟨rfl,rfl⟩,rfl,rfl,trivial⟩,trivial,⟨rfl,⟨rfl,rfl⟩,⟨rfl,rfl⟩,trivial⟩,⟨rfl,nP⟩,⟨rfl,nP⟩,trivial⟩
   ·exfalso;have q2:decide ((0:Int)<(n:Nat)-((0:Nat):Int))=false:=q1;simp at q2;omega
  |succ j=>
   refine aI (fun q1=> ?_) (fun q1=> ?_)
   ·have hlt:j+1<n:=by have q2:decide ((0:Int)<(n:Nat)-((j+1:Nat):Int))=true:=q1;simp at q2;omega
    refine aI (by show(List.replicate (j+1) ((0:Int),(0:Int))).length+1≤1073741824;rw[List.length_replicate];omega) ?_;refine aJ (j+2) (by omega) ?_ (show n-(j+2)<n-(j+1) by omega);refine Go.Tr.hd [(20001,103)] rfl (aI (aI hwr rfl) trivial) ⟨trivial,⟨⟨rfl,rfl⟩,⟨rfl,rfl⟩,⟨rfl,rfl⟩,rfl,rfl,trivial⟩,trivial,⟨⟨rfl,rfl⟩,⟨rfl,rfl⟩,⟨rfl,rfl⟩,rfl,rfl,trivial⟩,trivial,⟨rfl,⟨rfl,rfl⟩,⟨rfl,rfl⟩,trivial⟩,⟨rfl,nP⟩,⟨?_,nP⟩,trivial⟩;show List.replicate (j+1) ((0:Int),(0:Int))++[(0,0)]=List.replicate (j+1+1) (0,0);rw[List.replicate_succ' (n:=j+1)]
   ·have hn0:n=j+1:=by have q2:decide ((0:Int)<(n:Nat)-((j+1:Nat):Int))=false:=q1;simp at q2;omega
    refine fin [(10001,50),(10002,20001)] (aI ?_ ?_)
    ·rfl
    ·refine⟨trivial,⟨rfl,⟨rfl,rfl⟩,⟨rfl,rfl⟩,trivial⟩,⟨rfl,nP⟩,⟨?_,nP⟩,trivial⟩;show List.replicate (j+1) ((0:Int),(0:Int))=List.replicate n (0,0);rw[hn0]
theorem Pm(code:List Int)(d:DS)(hb:Bytes code)(hd:d.k≤99999900)(k lv:Int)(hk:dz k=true)(h6:(k==6)=false)(h7:(k==7)=false)(h8:(k==8)=false)(h9:(k==9)=false)(h12:(k==12)=false)(h11:(k==11)=true):yN code d k lv:=by
 have hk11:k=11:=by simpa using h11
 have h9n:k≠9:=by omega
 obtain⟨n,hn1,hn2,hn3,hn4⟩:=jC hk h9n;have hp:=Bj k 0;rw[hn3]at hp;have p1:=eO code d 4;have p2:=iy hb d 4;have p3:=dP hb d (n:=4) (by decide);have p4:=eO code (pk code d 4).2 4;have p5:=iy hb (pk code d 4).2 4;have p6:=dP hb (pk code d 4).2 (n:=4) (by decide);refine⟨(k,(bif bn k then lv else 0),0,[(pk code d 4).1,(pk code (pk code d 4).2 4).1],List.replicate n (0,0)),(pk code (pk code d 4).2 4).2,⟨rfl,rfl,?_,?_,⟨n,hn1,hn2,rfl,hn4⟩⟩,?_,Or.inr ?_⟩
 ·show bg ⟨k,_,0,[(pk code d 4).1,(pk code (pk code d 4).2 4).1],_⟩=true;simp only[bg,h6,h7,h8,h9,h12,h11,hk11];have:=FR (l:=[(pk code d 4).1,(pk code (pk code d 4).2 4).1]) (by intro x hx;simp only[List.mem_cons,List.not_mem_nil,or_false]at hx;rcases hx with rfl|rfl<;>omega);simp[this]
 ·show(2:Nat)≤4;omega
 ·omega
 cases hlv:bn k with
 |true=>
  refine aH.intro (nt:=106) aS mixed iC Try.func59 rfl rfl rfl rfl rfl rfl ?_;refine Or.inl (eI _ (aI hp ?_));refine Or.inl (eI _ (aI (fI k) ?_));refine aI (fun _=> ?_) (fun q=>by rw[hlv]at q;cases q);refine aI (fun q=>by have q:(k==6)=true:=q;rw[h6]at q;cases q) (fun _=> ?_);refine aI (fun q=>by have q:(k==7)=true:=q;rw[h7]at q;cases q) (fun _=> ?_);refine aI (fun q=>by have q:(k==8)=true:=q;rw[h8]at q;cases q) (fun _=> ?_);refine aI (fun q=>by have q:(k==9)=true:=q;rw[h9]at q;cases q) (fun _=> ?_);refine aI (fun q=>by have q:(k==12)=true:=q;rw[h12]at q;cases q) (fun _=> ?_)
  refine aI (fun _=> ?_) (fun q=>by have q:(k==11)=false:=q;rw[h11]at q;cases q);refine Or.inr (eI _ (eI _ (aI (bC code d hb (by omega) 4) ?_)));refine aI (by show 1≤1073741824;omega) ?_;refine Or.inr (eI _ (eI _ (aI (bC code (pk code d 4).2 hb (by omega) 4) ?_)));refine aI (by show 1+1≤1073741824;omega) ?_;refine aI (by kernel_rfl) ?_;refine lp Nat (fun j=>[(10,.int .i64 ((n:Nat)-(j:Nat)))]) (fun j=>match j with|0=>[.aN 6 34 [.int .i64 0,.int .i64 0,.int .i64 0,.raw (.slice none 0 0),.raw (.slice none 0 0)],.aN 7 34 [.int .i64 k,.int .i64 lv,.int .i64 0,.sl 76,.raw (.slice none 0 0)],.aN 10000 69 [.rsl aU code,.int .i64 (((pk code (pk code d 4).2 4).2).k:Nat),.int .u64 ((pk code (pk code d 4).2 4).2).s],.row 76 2 1 (.int .i64) [(pk code d 4).1,(pk code (pk code d 4).2 4).1] []]|j+1=>[.aN 6 34 [.int .i64 0,.int .i64 0,.int .i64 0,.raw (.slice none 0 0),.raw (.slice none 0 0)],.aN 7 34 [.int .i64 k,.int .i64 lv,.int .i64 0,.sl 76,.sl 20001],.aN 10000 69 [.rsl aU code,.int .i64 (((pk code (pk code d 4).2 4).2).k:Nat),.int .u64 ((pk code (pk code d 4).2 4).2).s],.row 76 2 1 (.int .i64) [(pk code d 4).1,(pk code (pk code d 4).2 4).1] [],.row 20001 36 2 aO (List.replicate (j+1) (0,0)) []]) (fun j=>n-j) (fun j=>j≤n) 0 (Nat.zero_le _) ?_ ?_
  ·exact Go.Tr.hd [] rfl (aI (aI (Int.sub_zero _).symm rfl) trivial) ⟨trivial,⟨⟨rfl,rfl⟩,⟨rfl,rfl⟩,⟨rfl,rfl⟩,rfl,rfl,trivial⟩,trivial,⟨⟨rfl,rfl⟩,⟨rfl,rfl⟩,⟨rfl,rfl⟩,rfl,rfl,trivial⟩,trivial,⟨rfl,⟨rfl,rfl⟩,⟨rfl,rfl⟩,trivial⟩,⟨rfl,nP⟩,trivial⟩
  intro j hj;have hj:j≤n:=hj;have hwr:IntKind.i64.wrap ((n:Nat)-(j:Nat)-1)=(n:Nat)-((j+1:Nat):Int):=by rw[IntWalk.i64_in _ (by omega)];omega
  cases j with
  |zero=>
   refine aI (fun q1=> ?_) (fun q1=> ?_)
   ·have hlt:0<n:=by omega
    refine aI (by show 1≤1073741824;omega) ?_;refine aJ 1 (by omega) ?_ (show n-1<n-0 by omega);exact Go.Tr.hd [(20001,103)] rfl (aI (aI hwr rfl) trivial) ⟨trivial,⟨⟨rfl,rfl⟩,⟨rfl,rfl⟩,⟨rfl,rfl⟩,rfl,rfl,trivial⟩,trivial,⟨⟨rfl,rfl⟩,⟨rfl,rfl⟩,⟨rfl,rfl⟩,rfl,rfl,trivial⟩,trivial,⟨rfl,⟨rfl,rfl⟩,⟨rfl,rfl⟩,trivial⟩,⟨rfl,nP⟩,⟨rfl,nP⟩,trivial⟩
   ·exfalso;have q2:decide ((0:Int)<(n:Nat)-((0:Nat):Int))=false:=q1;simp at q2;omega
  |succ j=>
   refine aI (fun q1=> ?_) (fun q1=> ?_)
   ·have hlt:j+1<n:=by have q2:decide ((0:Int)<(n:Nat)-((j+1:Nat):Int))=true:=q1;simp at q2;omega
    refine aI (by show(List.replicate (j+1) ((0:Int),(0:Int))).length+1≤1073741824;rw[List.length_replicate];omega) ?_;refine aJ (j+2) (by omega) ?_ (show n-(j+2)<n-(j+1) by omega);refine Go.Tr.hd [(20001,103)] rfl (aI (aI hwr rfl) trivial) ⟨trivial,⟨⟨rfl,rfl⟩,⟨rfl,rfl⟩,⟨rfl,rfl⟩,rfl,rfl,trivial⟩,trivial,⟨⟨rfl,rfl⟩,⟨rfl,rfl⟩,⟨rfl,rfl⟩,rfl,rfl,trivial⟩,trivial,⟨rfl,⟨rfl,rfl⟩,⟨rfl,rfl⟩,trivial⟩,⟨rfl,nP⟩,⟨?_,nP⟩,trivial⟩;show List.replicate (j+1) ((0:Int),(0:Int))++[(0,0)]=List.replicate (j+1+1) (0,0);rw[List.replicate_succ' (n:=j+1)]
   ·have hn0:n=j+1:=by have q2:decide ((0:Int)<(n:Nat)-((j+1:Nat):Int))=false:=q1;simp at q2;omega
    refine fin [(10001,76),(10002,20001)] (aI ?_ ?_)
    ·rfl
    ·refine⟨trivial,⟨rfl,⟨rfl,rfl⟩,⟨rfl,rfl⟩,trivial⟩,⟨rfl,nP⟩,⟨?_,nP⟩,trivial⟩;show List.replicate (j+1) ((0:Int),(0:Int))=List.replicate n (0,0);rw[hn0]
 |false=>
  refine aH.intro (nt:=106) aS mixed iC Try.func59 rfl rfl rfl rfl rfl rfl ?_;refine Or.inl (eI _ (aI hp ?_));refine Or.inl (eI _ (aI (fI k) ?_));refine aI (fun q=>by rw[hlv]at q;cases q) (fun _=> ?_);refine aI (fun q=>by have q:(k==6)=true:=q;rw[h6]at q;cases q) (fun _=> ?_);refine aI (fun q=>by have q:(k==7)=true:=q;rw[h7]at q;cases q) (fun _=> ?_);refine aI (fun q=>by have q:(k==8)=true:=q;rw[h8]at q;cases q) (fun _=> ?_);refine aI (fun q=>by have q:(k==9)=true:=q;rw[h9]at q;cases q) (fun _=> ?_);refine aI (fun q=>by have q:(k==12)=true:=q;rw[h12]at q;cases q) (fun _=> ?_)
  refine aI (fun _=> ?_) (fun q=>by have q:(k==11)=false:=q;rw[h11]at q;cases q);refine Or.inr (eI _ (eI _ (aI (bC code d hb (by omega) 4) ?_)));refine aI (by show 1≤1073741824;omega) ?_;refine Or.inr (eI _ (eI _ (aI (bC code (pk code d 4).2 hb (by omega) 4) ?_)));refine aI (by show 1+1≤1073741824;omega) ?_;refine aI (by kernel_rfl) ?_;refine lp Nat (fun j=>[(10,.int .i64 ((n:Nat)-(j:Nat)))]) (fun j=>match j with|0=>[.aN 6 34 [.int .i64 0,.int .i64 0,.int .i64 0,.raw (.slice none 0 0),.raw (.slice none 0 0)],.aN 7 34 [.int .i64 k,.int .i64 0,.int .i64 0,.sl 76,.raw (.slice none 0 0)],.aN 10000 69 [.rsl aU code,.int .i64 (((pk code (pk code d 4).2 4).2).k:Nat),.int .u64 ((pk code (pk code d 4).2 4).2).s],.row 76 2 1 (.int .i64) [(pk code d 4).1,(pk code (pk code d 4).2 4).1] []]|j+1=>[.aN 6 34 [.int .i64 0,.int .i64 0,.int .i64 0,.raw (.slice none 0 0),.raw (.slice none 0 0)],.aN 7 34 [.int .i64 k,.int .i64 0,.int .i64 0,.sl 76,.sl 20001],.aN 10000 69 [.rsl aU code,.int .i64 (((pk code (pk code d 4).2 4).2).k:Nat),.int .u64 ((pk code (pk code d 4).2 4).2).s],.row 76 2 1 (.int .i64) [(pk code d 4).1,(pk code (pk code d 4).2 4).1] [],.row 20001 36 2 aO (List.replicate (j+1) (0,0)) []]) (fun j=>n-j) (fun j=>j≤n) 0 (Nat.zero_le _) ?_ ?_
  ·exact Go.Tr.hd [] rfl (aI (aI (Int.sub_zero _).symm rfl) trivial) ⟨trivial,⟨⟨rfl,rfl⟩,⟨rfl,rfl⟩,⟨rfl,rfl⟩,rfl,rfl,trivial⟩,trivial,⟨⟨rfl,rfl⟩,⟨rfl,rfl⟩,⟨rfl,rfl⟩,rfl,rfl,trivial⟩,trivial,⟨rfl,⟨rfl,rfl⟩,⟨rfl,rfl⟩,trivial⟩,⟨rfl,nP⟩,trivial⟩
  intro j hj;have hj:j≤n:=hj;have hwr:IntKind.i64.wrap ((n:Nat)-(j:Nat)-1)=(n:Nat)-((j+1:Nat):Int):=by rw[IntWalk.i64_in _ (by omega)];omega
  cases j with
  |zero=>
   refine aI (fun q1=> ?_) (fun q1=> ?_)
   ·have hlt:0<n:=by omega
    refine aI (by show 1≤1073741824;omega) ?_;refine aJ 1 (by omega) ?_ (show n-1<n-0 by omega);exact Go.Tr.hd [(20001,103)] rfl (aI (aI hwr rfl) trivial) ⟨trivial,⟨⟨rfl,rfl⟩,⟨rfl,rfl⟩,⟨rfl,rfl⟩,rfl,rfl,trivial⟩,trivial,⟨⟨rfl,rfl⟩,⟨rfl,rfl⟩,⟨rfl,rfl⟩,rfl,rfl,trivial⟩,trivial,⟨rfl,⟨rfl,rfl⟩,⟨rfl,rfl⟩,trivial⟩,⟨rfl,nP⟩,⟨rfl,nP⟩,trivial⟩
   ·exfalso;have q2:decide ((0:Int)<(n:Nat)-((0:Nat):Int))=false:=q1;simp at q2;omega
  |succ j=>
   refine aI (fun q1=> ?_) (fun q1=> ?_)
   ·have hlt:j+1<n:=by have q2:decide ((0:Int)<(n:Nat)-((j+1:Nat):Int))=true:=q1;simp at q2;omega
    refine aI (by show(List.replicate (j+1) ((0:Int),(0:Int))).length+1≤1073741824;rw[List.length_replicate];omega) ?_;refine aJ (j+2) (by omega) ?_ (show n-(j+2)<n-(j+1) by omega);refine Go.Tr.hd [(20001,103)] rfl (aI (aI hwr rfl) trivial) ⟨trivial,⟨⟨rfl,rfl⟩,⟨rfl,rfl⟩,⟨rfl,rfl⟩,rfl,rfl,trivial⟩,trivial,⟨⟨rfl,rfl⟩,⟨rfl,rfl⟩,⟨rfl,rfl⟩,rfl,rfl,trivial⟩,trivial,⟨rfl,⟨rfl,rfl⟩,⟨rfl,rfl⟩,trivial⟩,⟨rfl,nP⟩,⟨?_,nP⟩,trivial⟩;show List.replicate (j+1) ((0:Int),(0:Int))++[(0,0)]=List.replicate (j+1+1) (0,0);rw[List.replicate_succ' (n:=j+1)]
   ·have hn0:n=j+1:=by have q2:decide ((0:Int)<(n:Nat)-((j+1:Nat):Int))=false:=q1;simp at q2;omega
    refine fin [(10001,76),(10002,20001)] (aI ?_ ?_)
    ·rfl
    ·refine⟨trivial,⟨rfl,⟨rfl,rfl⟩,⟨rfl,rfl⟩,trivial⟩,⟨rfl,nP⟩,⟨?_,nP⟩,trivial⟩;show List.replicate (j+1) ((0:Int),(0:Int))=List.replicate n (0,0);rw[hn0]
theorem Ph(code:List Int)(d:DS)(hb:Bytes code)(hd:d.k≤99999900)(k lv:Int)(hk:dz k=true)(h6:(k==6)=false)(h7:(k==7)=false)(h8:(k==8)=false)(h9:(k==9)=true):yN code d k lv:=by
 have hk9:k=9:=by simpa using h9
 have p1:=eO code d 3;have p2:=iy hb d 3;have p3:=dP hb d (n:=3) (by decide);have p4:=eO code (pk code d 3).2 4;have p5:=iy hb (pk code d 3).2 4;have p6:=dP hb (pk code d 3).2 (n:=4) (by decide);obtain⟨n,hn⟩:∃n:Nat,1+(pk code (pk code d 3).2 4).1=(n:Nat):=⟨(1+(pk code (pk code d 3).2 4).1).toNat,by omega⟩;have hn1:1≤n:=by omega
 have hn2:n≤4:=by omega
 have hw:IntKind.i64.wrap (1+(pk code (pk code d 3).2 4).1)=(n:Nat)-((0:Nat):Int):=by rw[IntWalk.i64_in _ (by omega)];omega
 have hn4:(n:Int)=aV k (bG k n):=by
  subst hk9;have e:bG 9 n=(n:Int)-1:=by simp[bG]
  rw[e];have e2:fK ((n:Int)-1) 0 3=true:=kU (by omega);simp[aV,e2]
 have hp:=Bj k 0;refine⟨(k,(bif bn k then lv else 0),(pk code d 3).1,[],List.replicate n (0,0)),(pk code (pk code d 3).2 4).2,⟨rfl,rfl,?_,?_,⟨n,hn1,hn2,rfl,hn4⟩⟩,?_,Or.inl ⟨rfl,?_⟩⟩
 ·show bg ⟨k,_,(pk code d 3).1,[],_⟩=true;simp only[bg,h6,h7,h8,h9];have:fK (pk code d 3).1 0 3=true:=kU (by omega);simp[this]
 ·exact Nat.zero_le _
 ·omega
 cases hlv:bn k with
 |true=>
  refine aH.intro (nt:=106) aS mixed iC Try.func59 rfl rfl rfl rfl rfl rfl ?_;refine Or.inl (eI _ (aI hp ?_));refine Or.inl (eI _ (aI (fI k) ?_));refine aI (fun _=> ?_) (fun q=>by rw[hlv]at q;cases q);refine aI (fun q=>by have q:(k==6)=true:=q;rw[h6]at q;cases q) (fun _=> ?_);refine aI (fun q=>by have q:(k==7)=true:=q;rw[h7]at q;cases q) (fun _=> ?_);refine aI (fun q=>by have q:(k==8)=true:=q;rw[h8]at q;cases q) (fun _=> ?_);refine aI (fun _=> ?_) (fun q=>by have q:(k==9)=false:=q;rw[h9]at q;cases q);refine Or.inr (eI _ (eI _ (aI (bC code d hb (by omega) 3) ?_)))
  refine Or.inr (eI _ (eI _ (aI (bC code (pk code d 3).2 hb (by omega) 4) ?_)));refine lp Nat (fun j=>[(10,.int .i64 ((n:Nat)-(j:Nat)))]) (fun j=>match j with|0=>[.aN 6 34 [.int .i64 0,.int .i64 0,.int .i64 0,.raw (.slice none 0 0),.raw (.slice none 0 0)],.aN 7 34 [.int .i64 k,.int .i64 lv,.int .i64 (pk code d 3).1,.raw (.slice none 0 0),.raw (.slice none 0 0)],.aN 10000 69 [.rsl aU code,.int .i64 (((pk code (pk code d 3).2 4).2).k:Nat),.int .u64 ((pk code (pk code d 3).2 4).2).s]]|j+1=>[.aN 6 34 [.int .i64 0,.int .i64 0,.int .i64 0,.raw (.slice none 0 0),.raw (.slice none 0 0)],.aN 7 34 [.int .i64 k,.int .i64 lv,.int .i64 (pk code d 3).1,.raw (.slice none 0 0),.sl 20001],.aN 10000 69 [.rsl aU code,.int .i64 (((pk code (pk code d 3).2 4).2).k:Nat),.int .u64 ((pk code (pk code d 3).2 4).2).s],.row 20001 36 2 aO (List.replicate (j+1) (0,0)) []]) (fun j=>n-j) (fun j=>j≤n) 0 (Nat.zero_le _) ?_ ?_
  ·exact Go.Tr.hd [] rfl (aI (aI hw rfl) trivial) ⟨trivial,⟨⟨rfl,rfl⟩,⟨rfl,rfl⟩,⟨rfl,rfl⟩,rfl,rfl,trivial⟩,trivial,⟨⟨rfl,rfl⟩,⟨rfl,rfl⟩,⟨rfl,rfl⟩,rfl,rfl,trivial⟩,trivial,⟨rfl,⟨rfl,rfl⟩,⟨rfl,rfl⟩,trivial⟩,trivial⟩
  intro j hj;have hj:j≤n:=hj;have hwr:IntKind.i64.wrap ((n:Nat)-(j:Nat)-1)=(n:Nat)-((j+1:Nat):Int):=by rw[IntWalk.i64_in _ (by omega)];omega
  cases j with
  |zero=>
   refine aI (fun q1=> ?_) (fun q1=> ?_)
   ·have hlt:0<n:=by omega
    refine aI (by show 1≤1073741824;omega) ?_;refine aJ 1 (by omega) ?_ (show n-1<n-0 by omega);exact Go.Tr.hd [(20001,103)] rfl (aI (aI hwr rfl) trivial) ⟨trivial,⟨⟨rfl,rfl⟩,⟨rfl,rfl⟩,⟨rfl,rfl⟩,rfl,rfl,trivial⟩,trivial,⟨⟨rfl,rfl⟩,⟨rfl,rfl⟩,⟨rfl,rfl⟩,rfl,rfl,trivial⟩,trivial,⟨rfl,⟨rfl,rfl⟩,⟨rfl,rfl⟩,trivial⟩,⟨rfl,nP⟩,trivial⟩
   ·exfalso;have q2:decide ((0:Int)<(n:Nat)-((0:Nat):Int))=false:=q1;simp at q2;omega
  |succ j=>
   refine aI (fun q1=> ?_) (fun q1=> ?_)
   ·have hlt:j+1<n:=by have q2:decide ((0:Int)<(n:Nat)-((j+1:Nat):Int))=true:=q1;simp at q2;omega
    refine aI (by show(List.replicate (j+1) ((0:Int),(0:Int))).length+1≤1073741824;rw[List.length_replicate];omega) ?_;refine aJ (j+2) (by omega) ?_ (show n-(j+2)<n-(j+1) by omega);refine Go.Tr.hd [(20001,103)] rfl (aI (aI hwr rfl) trivial) ⟨trivial,⟨⟨rfl,rfl⟩,⟨rfl,rfl⟩,⟨rfl,rfl⟩,rfl,rfl,trivial⟩,trivial,⟨⟨rfl,rfl⟩,⟨rfl,rfl⟩,⟨rfl,rfl⟩,rfl,rfl,trivial⟩,trivial,⟨rfl,⟨rfl,rfl⟩,⟨rfl,rfl⟩,trivial⟩,⟨?_,nP⟩,trivial⟩;show List.replicate (j+1) ((0:Int),(0:Int))++[(0,0)]=List.replicate (j+1+1) (0,0);rw[List.replicate_succ' (n:=j+1)]
   ·have hn0:n=j+1:=by have q2:decide ((0:Int)<(n:Nat)-((j+1:Nat):Int))=false:=q1;simp at q2;omega
    refine fin [(10001,20001)] (aI ?_ ?_)
    ·rfl
    ·refine⟨trivial,⟨rfl,⟨rfl,rfl⟩,⟨rfl,rfl⟩,trivial⟩,⟨?_,nP⟩,trivial⟩;show List.replicate (j+1) ((0:Int),(0:Int))=List.replicate n (0,0);rw[hn0]
 |false=>
  refine aH.intro (nt:=106) aS mixed iC Try.func59 rfl rfl rfl rfl rfl rfl ?_;refine Or.inl (eI _ (aI hp ?_));refine Or.inl (eI _ (aI (fI k) ?_));refine aI (fun q=>by rw[hlv]at q;cases q) (fun _=> ?_);refine aI (fun q=>by have q:(k==6)=true:=q;rw[h6]at q;cases q) (fun _=> ?_);refine aI (fun q=>by have q:(k==7)=true:=q;rw[h7]at q;cases q) (fun _=> ?_);refine aI (fun q=>by have q:(k==8)=true:=q;rw[h8]at q;cases q) (fun _=> ?_);refine aI (fun _=> ?_) (fun q=>by have q:(k==9)=false:=q;rw[h9]at q;cases q);refine Or.inr (eI _ (eI _ (aI (bC code d hb (by omega) 3) ?_)))
  refine Or.inr (eI _ (eI _ (aI (bC code (pk code d 3).2 hb (by omega) 4) ?_)));refine lp Nat (fun j=>[(10,.int .i64 ((n:Nat)-(j:Nat)))]) (fun j=>match j with|0=>[.aN 6 34 [.int .i64 0,.int .i64 0,.int .i64 0,.raw (.slice none 0 0),.raw (.slice none 0 0)],.aN 7 34 [.int .i64 k,.int .i64 0,.int .i64 (pk code d 3).1,.raw (.slice none 0 0),.raw (.slice none 0 0)],.aN 10000 69 [.rsl aU code,.int .i64 (((pk code (pk code d 3).2 4).2).k:Nat),.int .u64 ((pk code (pk code d 3).2 4).2).s]]|j+1=>[.aN 6 34 [.int .i64 0,.int .i64 0,.int .i64 0,.raw (.slice none 0 0),.raw (.slice none 0 0)],.aN 7 34 [.int .i64 k,.int .i64 0,.int .i64 (pk code d 3).1,.raw (.slice none 0 0),.sl 20001],.aN 10000 69 [.rsl aU code,.int .i64 (((pk code (pk code d 3).2 4).2).k:Nat),.int .u64 ((pk code (pk code d 3).2 4).2).s],.row 20001 36 2 aO (List.replicate (j+1) (0,0)) []]) (fun j=>n-j) (fun j=>j≤n) 0 (Nat.zero_le _) ?_ ?_
  ·exact Go.Tr.hd [] rfl (aI (aI hw rfl) trivial) ⟨trivial,⟨⟨rfl,rfl⟩,⟨rfl,rfl⟩,⟨rfl,rfl⟩,rfl,rfl,trivial⟩,trivial,⟨⟨rfl,rfl⟩,⟨rfl,rfl⟩,⟨rfl,rfl⟩,rfl,rfl,trivial⟩,trivial,⟨rfl,⟨rfl,rfl⟩,⟨rfl,rfl⟩,trivial⟩,trivial⟩
  intro j hj;have hj:j≤n:=hj;have hwr:IntKind.i64.wrap ((n:Nat)-(j:Nat)-1)=(n:Nat)-((j+1:Nat):Int):=by rw[IntWalk.i64_in _ (by omega)];omega
  cases j with
  |zero=>
   refine aI (fun q1=> ?_) (fun q1=> ?_)
   ·have hlt:0<n:=by omega
    refine aI (by show 1≤1073741824;omega) ?_;refine aJ 1 (by omega) ?_ (show n-1<n-0 by omega);exact Go.Tr.hd [(20001,103)] rfl (aI (aI hwr rfl) trivial) ⟨trivial,⟨⟨rfl,rfl⟩,⟨rfl,rfl⟩,⟨rfl,rfl⟩,rfl,rfl,trivial⟩,trivial,⟨⟨rfl,rfl⟩,⟨rfl,rfl⟩,⟨rfl,rfl⟩,rfl,rfl,trivial⟩,trivial,⟨rfl,⟨rfl,rfl⟩,⟨rfl,rfl⟩,trivial⟩,⟨rfl,nP⟩,trivial⟩
   ·exfalso;have q2:decide ((0:Int)<(n:Nat)-((0:Nat):Int))=false:=q1;simp at q2;omega
  |succ j=>
   refine aI (fun q1=> ?_) (fun q1=> ?_)
   ·have hlt:j+1<n:=by have q2:decide ((0:Int)<(n:Nat)-((j+1:Nat):Int))=true:=q1;simp at q2;omega
    refine aI (by show(List.replicate (j+1) ((0:Int),(0:Int))).length+1≤1073741824;rw[List.length_replicate];omega) ?_;refine aJ (j+2) (by omega) ?_ (show n-(j+2)<n-(j+1) by omega);refine Go.Tr.hd [(20001,103)] rfl (aI (aI hwr rfl) trivial) ⟨trivial,⟨⟨rfl,rfl⟩,⟨rfl,rfl⟩,⟨rfl,rfl⟩,rfl,rfl,trivial⟩,trivial,⟨⟨rfl,rfl⟩,⟨rfl,rfl⟩,⟨rfl,rfl⟩,rfl,rfl,trivial⟩,trivial,⟨rfl,⟨rfl,rfl⟩,⟨rfl,rfl⟩,trivial⟩,⟨?_,nP⟩,trivial⟩;show List.replicate (j+1) ((0:Int),(0:Int))++[(0,0)]=List.replicate (j+1+1) (0,0);rw[List.replicate_succ' (n:=j+1)]
   ·have hn0:n=j+1:=by have q2:decide ((0:Int)<(n:Nat)-((j+1:Nat):Int))=false:=q1;simp at q2;omega
    refine fin [(10001,20001)] (aI ?_ ?_)
    ·rfl
    ·refine⟨trivial,⟨rfl,⟨rfl,rfl⟩,⟨rfl,rfl⟩,trivial⟩,⟨?_,nP⟩,trivial⟩;show List.replicate (j+1) ((0:Int),(0:Int))=List.replicate n (0,0);rw[hn0]
theorem Pj(code:List Int)(d:DS)(hb:Bytes code)(hd:d.k≤99999900)(k lv:Int)(hk:dz k=true)(h6:(k==6)=false)(h7:(k==7)=false)(h8:(k==8)=false)(h9:(k==9)=false)(h12:(k==12)=false)(h11:(k==11)=false)(h10:(k==10)=true):yN code d k lv:=by
 have hk10:k=10:=by simpa using h10
 have h9n:k≠9:=by omega
 obtain⟨n,hn1,hn2,hn3,hn4⟩:=jC hk h9n;have hp:=Bj k 0;rw[hn3]at hp;have p1:=eO code d 4;have p2:=iy hb d 4;have p3:=dP hb d (n:=4) (by decide);obtain⟨m,hm⟩:∃m:Nat,1+(pk code d 4).1=(m:Nat):=⟨(1+(pk code d 4).1).toNat,by omega⟩;have hw:IntKind.i64.wrap (1+(pk code d 4).1)=(m:Nat)-((0:Nat):Int):=by rw[IntWalk.i64_in _ (by omega)];omega
 have dkm:=Mc code (pk code d 4).2 m;have dlm:=Ab code (pk code d 4).2 m;refine⟨(k,(bif bn k then lv else 0),0,(dT code (pk code d 4).2 m).1,List.replicate n (0,0)),(dT code (pk code d 4).2 m).2,⟨rfl,rfl,?_,?_,⟨n,hn1,hn2,rfl,hn4⟩⟩,?_,Or.inr ?_⟩
 ·show bg ⟨k,_,0,(dT code (pk code d 4).2 m).1,_⟩=true;simp only[bg,h6,h7,h8,h9,h12,h11,h10];have e1:=FR (NP hb (pk code d 4).2 m);have e2:fK ((dT code (pk code d 4).2 m).1.length:Nat) 1 4=true:=kU (by omega);simp[e1,e2]
 ·show(dT code (pk code d 4).2 m).1.length≤4;omega
 ·omega
 cases hlv:bn k with
 |true=>
  refine aH.intro (nt:=106) aS mixed iC Try.func59 rfl rfl rfl rfl rfl rfl ?_;refine Or.inl (eI _ (aI hp ?_));refine Or.inl (eI _ (aI (fI k) ?_));refine aI (fun _=> ?_) (fun q=>by rw[hlv]at q;cases q);refine aI (fun q=>by have q:(k==6)=true:=q;rw[h6]at q;cases q) (fun _=> ?_);refine aI (fun q=>by have q:(k==7)=true:=q;rw[h7]at q;cases q) (fun _=> ?_);refine aI (fun q=>by have q:(k==8)=true:=q;rw[h8]at q;cases q) (fun _=> ?_);refine aI (fun q=>by have q:(k==9)=true:=q;rw[h9]at q;cases q) (fun _=> ?_);refine aI (fun q=>by have q:(k==12)=true:=q;rw[h12]at q;cases q) (fun _=> ?_)
  refine aI (fun q=>by have q:(k==11)=true:=q;rw[h11]at q;cases q) (fun _=> ?_);refine aI (fun _=> ?_) (fun q=>by have q:(k==10)=false:=q;rw[h10]at q;cases q);refine Or.inr (eI _ (eI _ (aI (bC code d hb (by omega) 4) ?_)));refine lp Nat (fun e=>[(9,.int .i64 ((m:Nat)-(e:Nat)))]) (fun e=>match e with|0=>[.aN 6 34 [.int .i64 0,.int .i64 0,.int .i64 0,.raw (.slice none 0 0),.raw (.slice none 0 0)],.aN 7 34 [.int .i64 k,.int .i64 lv,.int .i64 0,.raw (.slice none 0 0),.raw (.slice none 0 0)],.aN 10000 69 [.rsl aU code,.int .i64 ((dT code (pk code d 4).2 0).2.k:Nat),.int .u64 (dT code (pk code d 4).2 0).2.s]]|e+1=>[.aN 6 34 [.int .i64 0,.int .i64 0,.int .i64 0,.raw (.slice none 0 0),.raw (.slice none 0 0)],.aN 7 34 [.int .i64 k,.int .i64 lv,.int .i64 0,.sl 20005,.raw (.slice none 0 0)],.aN 10000 69 [.rsl aU code,.int .i64 ((dT code (pk code d 4).2 (e+1)).2.k:Nat),.int .u64 (dT code (pk code d 4).2 (e+1)).2.s],.row 20005 2 1 (.int .i64) (dT code (pk code d 4).2 (e+1)).1 []]) (fun e=>m-e) (fun e=>e≤m) 0 (Nat.zero_le _) ?_ ?_
  ·exact Go.Tr.hd [] rfl (aI (aI hw rfl) trivial) ⟨trivial,⟨⟨rfl,rfl⟩,⟨rfl,rfl⟩,⟨rfl,rfl⟩,rfl,rfl,trivial⟩,trivial,⟨⟨rfl,rfl⟩,⟨rfl,rfl⟩,⟨rfl,rfl⟩,rfl,rfl,trivial⟩,trivial,⟨rfl,⟨rfl,rfl⟩,⟨rfl,rfl⟩,trivial⟩,trivial⟩
  intro e he;have he:e≤m:=he;have hwe:IntKind.i64.wrap ((m:Nat)-(e:Nat)-1)=(m:Nat)-((e+1:Nat):Int):=by rw[IntWalk.i64_in _ (by omega)];omega
  have dk:=Mc code (pk code d 4).2 e;have dl:=Ab code (pk code d 4).2 e;cases e with
  |zero=>
   refine aI (fun q1=> ?_) (fun q1=> ?_)
   ·have hlt:0<m:=by omega
    refine Or.inr (eI _ (eI _ (aI (bC code (dT code (pk code d 4).2 0).2 hb (by omega) 4) ?_)));refine aI (by show 1≤1073741824;omega) ?_;refine aI (by kernel_rfl) ?_;refine aJ 1 (by omega) ?_ (show m-1<m-0 by omega);exact Go.Tr.hd [(20005,92)] rfl (aI (aI hwe rfl) trivial) ⟨trivial,⟨⟨rfl,rfl⟩,⟨rfl,rfl⟩,⟨rfl,rfl⟩,rfl,rfl,trivial⟩,trivial,⟨⟨rfl,rfl⟩,⟨rfl,rfl⟩,⟨rfl,rfl⟩,rfl,rfl,trivial⟩,trivial,⟨rfl,⟨rfl,rfl⟩,⟨rfl,rfl⟩,trivial⟩,⟨rfl,nP⟩,trivial⟩
   ·exfalso;have q2:decide ((0:Int)<(m:Nat)-((0:Nat):Int))=false:=q1;simp at q2;omega
  |succ e=>
   refine aI (fun q1=> ?_) (fun q1=> ?_)
   ·have hlt:e+1<m:=by have q2:decide ((0:Int)<(m:Nat)-((e+1:Nat):Int))=true:=q1;simp at q2;omega
    refine Or.inr (eI _ (eI _ (aI (bC code (dT code (pk code d 4).2 (e+1)).2 hb (by omega) 4) ?_)));refine aI (by show(dT code (pk code d 4).2 (e+1)).1.length+1≤1073741824;omega) ?_;refine aI (by kernel_rfl) ?_;refine aJ (e+2) (by omega) ?_ (show m-(e+2)<m-(e+1) by omega);exact Go.Tr.hd [(20005,92)] rfl (aI (aI hwe rfl) trivial) ⟨trivial,⟨⟨rfl,rfl⟩,⟨rfl,rfl⟩,⟨rfl,rfl⟩,rfl,rfl,trivial⟩,trivial,⟨⟨rfl,rfl⟩,⟨rfl,rfl⟩,⟨rfl,rfl⟩,rfl,rfl,trivial⟩,trivial,⟨rfl,⟨rfl,rfl⟩,⟨rfl,rfl⟩,trivial⟩,⟨rfl,nP⟩,trivial⟩
   ·have hm0:m=e+1:=by have q2:decide ((0:Int)<(m:Nat)-((e+1:Nat):Int))=false:=q1;simp at q2;omega
    subst hm0;refine lp Nat (fun j=>[(10,.int .i64 ((n:Nat)-(j:Nat)))]) (fun j=>match j with|0=>[.aN 6 34 [.int .i64 0,.int .i64 0,.int .i64 0,.raw (.slice none 0 0),.raw (.slice none 0 0)],.aN 7 34 [.int .i64 k,.int .i64 lv,.int .i64 0,.sl 20005,.raw (.slice none 0 0)],.aN 10000 69 [.rsl aU code,.int .i64 (((dT code (pk code d 4).2 (e+1)).2).k:Nat),.int .u64 ((dT code (pk code d 4).2 (e+1)).2).s],.row 20005 2 1 (.int .i64) (dT code (pk code d 4).2 (e+1)).1 []]|j+1=>[.aN 6 34 [.int .i64 0,.int .i64 0,.int .i64 0,.raw (.slice none 0 0),.raw (.slice none 0 0)],.aN 7 34 [.int .i64 k,.int .i64 lv,.int .i64 0,.sl 20005,.sl 20001],.aN 10000 69 [.rsl aU code,.int .i64 (((dT code (pk code d 4).2 (e+1)).2).k:Nat),.int .u64 ((dT code (pk code d 4).2 (e+1)).2).s],.row 20005 2 1 (.int .i64) (dT code (pk code d 4).2 (e+1)).1 [],.row 20001 36 2 aO (List.replicate (j+1) (0,0)) []]) (fun j=>n-j) (fun j=>j≤n) 0 (Nat.zero_le _) ?_ ?_
    ·exact Go.Tr.hd [] rfl (aI (aI (Int.sub_zero _).symm rfl) trivial) ⟨trivial,⟨⟨rfl,rfl⟩,⟨rfl,rfl⟩,⟨rfl,rfl⟩,rfl,rfl,trivial⟩,trivial,⟨⟨rfl,rfl⟩,⟨rfl,rfl⟩,⟨rfl,rfl⟩,rfl,rfl,trivial⟩,trivial,⟨rfl,⟨rfl,rfl⟩,⟨rfl,rfl⟩,trivial⟩,⟨rfl,nP⟩,trivial⟩
    intro j hj;have hj:j≤n:=hj;have hwr:IntKind.i64.wrap ((n:Nat)-(j:Nat)-1)=(n:Nat)-((j+1:Nat):Int):=by rw[IntWalk.i64_in _ (by omega)];omega
    cases j with
    |zero=>
     refine aI (fun q1=> ?_) (fun q1=> ?_)
     ·have hlt:0<n:=by omega
      refine aI (by show 1≤1073741824;omega) ?_;refine aJ 1 (by omega) ?_ (show n-1<n-0 by omega);exact Go.Tr.hd [(20001,103)] rfl (aI (aI hwr rfl) trivial) ⟨trivial,⟨⟨rfl,rfl⟩,⟨rfl,rfl⟩,⟨rfl,rfl⟩,rfl,rfl,trivial⟩,trivial,⟨⟨rfl,rfl⟩,⟨rfl,rfl⟩,⟨rfl,rfl⟩,rfl,rfl,trivial⟩,trivial,⟨rfl,⟨rfl,rfl⟩,⟨rfl,rfl⟩,trivial⟩,⟨rfl,nP⟩,⟨rfl,nP⟩,trivial⟩
     ·exfalso;have q2:decide ((0:Int)<(n:Nat)-((0:Nat):Int))=false:=q1;simp at q2;omega
    |succ j=>
     refine aI (fun q1=> ?_) (fun q1=> ?_)
     ·have hlt:j+1<n:=by have q2:decide ((0:Int)<(n:Nat)-((j+1:Nat):Int))=true:=q1;simp at q2;omega
      refine aI (by show(List.replicate (j+1) ((0:Int),(0:Int))).length+1≤1073741824;rw[List.length_replicate];omega) ?_;refine aJ (j+2) (by omega) ?_ (show n-(j+2)<n-(j+1) by omega);refine Go.Tr.hd [(20001,103)] rfl (aI (aI hwr rfl) trivial) ⟨trivial,⟨⟨rfl,rfl⟩,⟨rfl,rfl⟩,⟨rfl,rfl⟩,rfl,rfl,trivial⟩,trivial,⟨⟨rfl,rfl⟩,⟨rfl,rfl⟩,⟨rfl,rfl⟩,rfl,rfl,trivial⟩,trivial,⟨rfl,⟨rfl,rfl⟩,⟨rfl,rfl⟩,trivial⟩,⟨rfl,nP⟩,⟨?_,nP⟩,trivial⟩;show List.replicate (j+1) ((0:Int),(0:Int))++[(0,0)]=List.replicate (j+1+1) (0,0);rw[List.replicate_succ' (n:=j+1)]
     ·have hn0:n=j+1:=by have q2:decide ((0:Int)<(n:Nat)-((j+1:Nat):Int))=false:=q1;simp at q2;omega
      refine fin [(10001,20005),(10002,20001)] (aI ?_ ?_)
      ·rfl
      ·refine⟨trivial,⟨rfl,⟨rfl,rfl⟩,⟨rfl,rfl⟩,trivial⟩,⟨rfl,nP⟩,⟨?_,nP⟩,trivial⟩;show List.replicate (j+1) ((0:Int),(0:Int))=List.replicate n (0,0);rw[hn0]
 |false=>
  refine aH.intro (nt:=106) aS mixed iC Try.func59 rfl rfl rfl rfl rfl rfl ?_;refine Or.inl (eI _ (aI hp ?_));refine Or.inl (eI _ (aI (fI k) ?_));refine aI (fun q=>by rw[hlv]at q;cases q) (fun _=> ?_);refine aI (fun q=>by have q:(k==6)=true:=q;rw[h6]at q;cases q) (fun _=> ?_);refine aI (fun q=>by have q:(k==7)=true:=q;rw[h7]at q;cases q) (fun _=> ?_);refine aI (fun q=>by have q:(k==8)=true:=q;rw[h8]at q;cases q) (fun _=> ?_);refine aI (fun q=>by have q:(k==9)=true:=q;rw[h9]at q;cases q) (fun _=> ?_);refine aI (fun q=>by have q:(k==12)=true:=q;rw[h12]at q;cases q) (fun _=> ?_)
  refine aI (fun q=>by have q:(k==11)=true:=q;rw[h11]at q;cases q) (fun _=> ?_);refine aI (fun _=> ?_) (fun q=>by have q:(k==10)=false:=q;rw[h10]at q;cases q);refine Or.inr (eI _ (eI _ (aI (bC code d hb (by omega) 4) ?_)));refine lp Nat (fun e=>[(9,.int .i64 ((m:Nat)-(e:Nat)))]) (fun e=>match e with|0=>[.aN 6 34 [.int .i64 0,.int .i64 0,.int .i64 0,.raw (.slice none 0 0),.raw (.slice none 0 0)],.aN 7 34 [.int .i64 k,.int .i64 0,.int .i64 0,.raw (.slice none 0 0),.raw (.slice none 0 0)],.aN 10000 69 [.rsl aU code,.int .i64 ((dT code (pk code d 4).2 0).2.k:Nat),.int .u64 (dT code (pk code d 4).2 0).2.s]]|e+1=>[.aN 6 34 [.int .i64 0,.int .i64 0,.int .i64 0,.raw (.slice none 0 0),.raw (.slice none 0 0)],.aN 7 34 [.int .i64 k,.int .i64 0,.int .i64 0,.sl 20005,.raw (.slice none 0 0)],.aN 10000 69 [.rsl aU code,.int .i64 ((dT code (pk code d 4).2 (e+1)).2.k:Nat),.int .u64 (dT code (pk code d 4).2 (e+1)).2.s],.row 20005 2 1 (.int .i64) (dT code (pk code d 4).2 (e+1)).1 []]) (fun e=>m-e) (fun e=>e≤m) 0 (Nat.zero_le _) ?_ ?_
  ·exact Go.Tr.hd [] rfl (aI (aI hw rfl) trivial) ⟨trivial,⟨⟨rfl,rfl⟩,⟨rfl,rfl⟩,⟨rfl,rfl⟩,rfl,rfl,trivial⟩,trivial,⟨⟨rfl,rfl⟩,⟨rfl,rfl⟩,⟨rfl,rfl⟩,rfl,rfl,trivial⟩,trivial,⟨rfl,⟨rfl,rfl⟩,⟨rfl,rfl⟩,trivial⟩,trivial⟩
  intro e he;have he:e≤m:=he;have hwe:IntKind.i64.wrap ((m:Nat)-(e:Nat)-1)=(m:Nat)-((e+1:Nat):Int):=by rw[IntWalk.i64_in _ (by omega)];omega
  have dk:=Mc code (pk code d 4).2 e;have dl:=Ab code (pk code d 4).2 e;cases e with
  |zero=>
   refine aI (fun q1=> ?_) (fun q1=> ?_)
   ·have hlt:0<m:=by omega
    refine Or.inr (eI _ (eI _ (aI (bC code (dT code (pk code d 4).2 0).2 hb (by omega) 4) ?_)));refine aI (by show 1≤1073741824;omega) ?_;refine aI (by kernel_rfl) ?_;refine aJ 1 (by omega) ?_ (show m-1<m-0 by omega);exact Go.Tr.hd [(20005,92)] rfl (aI (aI hwe rfl) trivial) ⟨trivial,⟨⟨rfl,rfl⟩,⟨rfl,rfl⟩,⟨rfl,rfl⟩,rfl,rfl,trivial⟩,trivial,⟨⟨rfl,rfl⟩,⟨rfl,rfl⟩,⟨rfl,rfl⟩,rfl,rfl,trivial⟩,trivial,⟨rfl,⟨rfl,rfl⟩,⟨rfl,rfl⟩,trivial⟩,⟨rfl,nP⟩,trivial⟩
   ·exfalso;have q2:decide ((0:Int)<(m:Nat)-((0:Nat):Int))=false:=q1;simp at q2;omega
  |succ e=>
   refine aI (fun q1=> ?_) (fun q1=> ?_)
   ·have hlt:e+1<m:=by have q2:decide ((0:Int)<(m:Nat)-((e+1:Nat):Int))=true:=q1;simp at q2;omega
    refine Or.inr (eI _ (eI _ (aI (bC code (dT code (pk code d 4).2 (e+1)).2 hb (by omega) 4) ?_)));refine aI (by show(dT code (pk code d 4).2 (e+1)).1.length+1≤1073741824;omega) ?_;refine aI (by kernel_rfl) ?_;refine aJ (e+2) (by omega) ?_ (show m-(e+2)<m-(e+1) by omega);exact Go.Tr.hd [(20005,92)] rfl (aI (aI hwe rfl) trivial) ⟨trivial,⟨⟨rfl,rfl⟩,⟨rfl,rfl⟩,⟨rfl,rfl⟩,rfl,rfl,trivial⟩,trivial,⟨⟨rfl,rfl⟩,⟨rfl,rfl⟩,⟨rfl,rfl⟩,rfl,rfl,trivial⟩,trivial,⟨rfl,⟨rfl,rfl⟩,⟨rfl,rfl⟩,trivial⟩,⟨rfl,nP⟩,trivial⟩
   ·have hm0:m=e+1:=by have q2:decide ((0:Int)<(m:Nat)-((e+1:Nat):Int))=false:=q1;simp at q2;omega
    subst hm0;refine lp Nat (fun j=>[(10,.int .i64 ((n:Nat)-(j:Nat)))]) (fun j=>match j with|0=>[.aN 6 34 [.int .i64 0,.int .i64 0,.int .i64 0,.raw (.slice none 0 0),.raw (.slice none 0 0)],.aN 7 34 [.int .i64 k,.int .i64 0,.int .i64 0,.sl 20005,.raw (.slice none 0 0)],.aN 10000 69 [.rsl aU code,.int .i64 (((dT code (pk code d 4).2 (e+1)).2).k:Nat),.int .u64 ((dT code (pk code d 4).2 (e+1)).2).s],.row 20005 2 1 (.int .i64) (dT code (pk code d 4).2 (e+1)).1 []]|j+1=>[.aN 6 34 [.int .i64 0,.int .i64 0,.int .i64 0,.raw (.slice none 0 0),.raw (.slice none 0 0)],.aN 7 34 [.int .i64 k,.int .i64 0,.int .i64 0,.sl 20005,.sl 20001],.aN 10000 69 [.rsl aU code,.int .i64 (((dT code (pk code d 4).2 (e+1)).2).k:Nat),.int .u64 ((dT code (pk code d 4).2 (e+1)).2).s],.row 20005 2 1 (.int .i64) (dT code (pk code d 4).2 (e+1)).1 [],.row 20001 36 2 aO (List.replicate (j+1) (0,0)) []]) (fun j=>n-j) (fun j=>j≤n) 0 (Nat.zero_le _) ?_ ?_
    ·exact Go.Tr.hd [] rfl (aI (aI (Int.sub_zero _).symm rfl) trivial) ⟨trivial,⟨⟨rfl,rfl⟩,⟨rfl,rfl⟩,⟨rfl,rfl⟩,rfl,rfl,trivial⟩,trivial,⟨⟨rfl,rfl⟩,⟨rfl,rfl⟩,⟨rfl,rfl⟩,rfl,rfl,trivial⟩,trivial,⟨rfl,⟨rfl,rfl⟩,⟨rfl,rfl⟩,trivial⟩,⟨rfl,nP⟩,trivial⟩
    intro j hj;have hj:j≤n:=hj;have hwr:IntKind.i64.wrap ((n:Nat)-(j:Nat)-1)=(n:Nat)-((j+1:Nat):Int):=by rw[IntWalk.i64_in _ (by omega)];omega
    cases j with
    |zero=>
     refine aI (fun q1=> ?_) (fun q1=> ?_)
     ·have hlt:0<n:=by omega
      refine aI (by show 1≤1073741824;omega) ?_;refine aJ 1 (by omega) ?_ (show n-1<n-0 by omega);exact Go.Tr.hd [(20001,103)] rfl (aI (aI hwr rfl) trivial) ⟨trivial,⟨⟨rfl,rfl⟩,⟨rfl,rfl⟩,⟨rfl,rfl⟩,rfl,rfl,trivial⟩,trivial,⟨⟨rfl,rfl⟩,⟨rfl,rfl⟩,⟨rfl,rfl⟩,rfl,rfl,trivial⟩,trivial,⟨rfl,⟨rfl,rfl⟩,⟨rfl,rfl⟩,trivial⟩,⟨rfl,nP⟩,⟨rfl,nP⟩,trivial⟩
     ·exfalso;have q2:decide ((0:Int)<(n:Nat)-((0:Nat):Int))=false:=q1;simp at q2;omega
    |succ j=>
     refine aI (fun q1=> ?_) (fun q1=> ?_)
     ·have hlt:j+1<n:=by have q2:decide ((0:Int)<(n:Nat)-((j+1:Nat):Int))=true:=q1;simp at q2;omega
      refine aI (by show(List.replicate (j+1) ((0:Int),(0:Int))).length+1≤1073741824;rw[List.length_replicate];omega) ?_;refine aJ (j+2) (by omega) ?_ (show n-(j+2)<n-(j+1) by omega);refine Go.Tr.hd [(20001,103)] rfl (aI (aI hwr rfl) trivial) ⟨trivial,⟨⟨rfl,rfl⟩,⟨rfl,rfl⟩,⟨rfl,rfl⟩,rfl,rfl,trivial⟩,trivial,⟨⟨rfl,rfl⟩,⟨rfl,rfl⟩,⟨rfl,rfl⟩,rfl,rfl,trivial⟩,trivial,⟨rfl,⟨rfl,rfl⟩,⟨rfl,rfl⟩,trivial⟩,⟨rfl,nP⟩,⟨?_,nP⟩,trivial⟩;show List.replicate (j+1) ((0:Int),(0:Int))++[(0,0)]=List.replicate (j+1+1) (0,0);rw[List.replicate_succ' (n:=j+1)]
     ·have hn0:n=j+1:=by have q2:decide ((0:Int)<(n:Nat)-((j+1:Nat):Int))=false:=q1;simp at q2;omega
      refine fin [(10001,20005),(10002,20001)] (aI ?_ ?_)
      ·rfl
      ·refine⟨trivial,⟨rfl,⟨rfl,rfl⟩,⟨rfl,rfl⟩,trivial⟩,⟨rfl,nP⟩,⟨?_,nP⟩,trivial⟩;show List.replicate (j+1) ((0:Int),(0:Int))=List.replicate n (0,0);rw[hn0]
theorem bH(code:List Int)(d:DS)(hb:Bytes code)(hd:d.k≤99999900)(k lv:Int)(hk:dz k=true):yN code d k lv:=by
 cases h6:(k==6)with
 |true=>
  cases hq:((pk code (pk code d 5).2 6).1==0)with
  |true=>exact MO code d hb hd k lv hk h6 hq
  |false=>exact MN code d hb hd k lv hk h6 hq
 |false=>
  cases h7:(k==7)with
  |true=>exact QZ code d hb hd k lv hk h6 h7
  |false=>
   cases h8:(k==8)with
   |true=>exact Pk code d hb hd k lv hk h6 h7 h8
   |false=>
    cases h9:(k==9)with
    |true=>exact Ph code d hb hd k lv hk h6 h7 h8 h9
    |false=>
     cases h12:(k==12)with
     |true=>exact newRef code d hb hd k lv hk h6 h7 h8 h9 h12
     |false=>
      cases h11:(k==11)with
      |true=>exact Pm code d hb hd k lv hk h6 h7 h8 h9 h12 h11
      |false=>
       cases h10:(k==10)with
       |true=>exact Pj code d hb hd k lv hk h6 h7 h8 h9 h12 h11 h10
       |false=>exact Sn code d hb hd k lv hk h6 h7 h8 h9 h12 h11 h10
end Go.Proofs.Ytnamelcmcikeoaa
