
/- Deques. Printed by gx_dq.py. -/
import Derived.Test.YtjpaeopdljfjpaaShort
import Derived.Test.YtjpaeopdljfjpaaProg
import Derived.Test.YtjpaeopdljfjpaaSc
import Derived.Test.YtjpaeopdljfjpaaDDq
import Derived.Test.YtjpaeopdljfjpaaNet
import Derived.IntWalk
import Derived.Test.YtjpaeopdljfjpaaDq9
set_option linter.unusedSimpArgs false
set_option linter.unusedVariables false
namespace Go.Tr
theorem IL{α β γ:Type}{a a':α}{b b':β}{c c':γ}(h:(a,b,c)=(a',b',c')):a=a'∧b=b'∧c=c':=by
 injection h with h1 h2;injection h2 with h2 h3;exact⟨h1,h2,h3⟩
def aM(a:ah):Nat:=4*a.todo.length-a.pc.toNat
def xG(x:aQ):Nat:=(x.actors.map aM).sum
def nG(sch:List Int)(n m:Nat):Nat:=if 0<sch.length then((sch[n % sch.length]?).getD 0).toNat % m else 0
theorem IW{sch:List Int}{n m:Nat}(h:¬0<sch.length):nG sch n m=0:=if_neg h
theorem IX{sch:List Int}{n m j:Nat}(h:0<sch.length)(hx:sch[n % sch.length]? =some ((j:Nat):Int)):nG sch n m=j % m:=by
 unfold nG;rw[if_pos h,hx];rfl
def jB(sch:List Int):Nat→aQ→Nat→aQ×Int×Int
  |0,_,_=>(⟨0,0,[],[],[],[]⟩,0,0)
  |f+1,y,n=>cond ((((aW y.actors y.actors.length).length:Nat):Int)==0) (y,((n:Nat):Int),0)
      (match y.actors[(((aW y.actors y.actors.length)[nG sch n (aW y.actors y.actors.length).length]?).getD 0).toNat]? with
       |none=>(⟨0,0,[],[],[],[]⟩,0,0)
       |some a=>cond (dK (bP y (((aW y.actors y.actors.length)[nG sch n (aW y.actors y.actors.length).length]?).getD 0).toNat a)) (⟨0,0,[],[],[],[]⟩,0,4) (jB sch f (bP y (((aW y.actors y.actors.length)[nG sch n (aW y.actors y.actors.length).length]?).getD 0).toNat a) (n+1)))
theorem AV{sch:List Int}{f n:Nat}{y:aQ}(h:((((aW y.actors y.actors.length).length:Nat):Int)==0)=true):jB sch (f+1) y n=(y,((n:Nat):Int),0):=by rw[jB,h];rfl
theorem uY{sch:List Int}{f n q i:Nat}{y:aQ}{a:ah}(h:((((aW y.actors y.actors.length).length:Nat):Int)==0)=false)(hq:nG sch n (aW y.actors y.actors.length).length=q)(hb:(aW y.actors y.actors.length)[q]? =some ((i:Nat):Int))(ha:y.actors[i]? =some a):
  jB sch (f+1) y n=cond (dK (bP y i a)) (⟨0,0,[],[],[],[]⟩,0,4) (jB sch f (bP y i a) (n+1)):=by
 rw[jB,h,hq,hb];simp only[Option.getD_some,qK,ha,qH]
def gM(x:aQ)(sch:List Int):aQ×Int×Int:=
 cond (!okB x) (⟨0,0,[],[],[],[]⟩,0,1) (cond (!sF sch) (⟨0,0,[],[],[],[]⟩,0,2) (jB sch (xG x+1) x 0))
theorem Kz{xs:List Int}{k:Nat}{v:Int}(h:sF xs=true)(hx:xs[k]? =some v):∃j:Nat,v=((j:Nat):Int):=by
 simp only[sF,qD,List.all_eq_true]at h;have h1:=oZ (h.2 v (List.mem_of_getElem? hx));exact⟨v.toNat,by omega⟩
theorem CQ{xs:List ah}{q:Nat}:∀{n:Nat},q<(aW xs n).length→∃(i:Nat) (a:ah),(aW xs n)[q]? =some ((i:Nat):Int)∧i<n∧xs[i]? =some a∧a.todo≠[]
 |0,h=>by simp[aW]at h
 |n+1,h=>by
  by_cases hq:q<(aW xs n).length
  ·obtain⟨i,a,h1,h2,h3,h4⟩:=CQ hq;exact⟨i,a,by unfold aW;rw[qM hq];exact h1,by omega,h3,h4⟩
  ·unfold aW at h ⊢;cases hx:xs[n]? with
   |none=>rw[hx]at h;simp at h;omega
   |some a=>
    rw[hx]at h
    by_cases ht:0<a.todo.length
    ·simp only[if_pos ht,qA,qI,qR]at h ⊢;refine⟨n,a,?_,by omega,hx,fun h0=>by rw[h0]at ht;simp at ht⟩;rw[qL (by omega),show q-(aW xs n).length=0 by omega];rfl
    ·simp only[if_neg ht,qS]at h;omega
theorem DK{α:Type}(f:α→Nat):∀{xs:List α} {k:Nat} {a v:α},xs[k]? =some a→((xs.set k v).map f).sum+f a=(xs.map f).sum+f v
 |[],k,a,v,h=>by simp at h
 |x::xs,0,a,v,h=>by simp at h;subst h;simp;omega
 |x::xs,k+1,a,v,h=>by
  have:=DK f (v:=v) (show xs[k]? =some a by simpa using h);simp only[List.set_cons_succ,List.map_cons,List.sum_cons];omega
theorem GA{α:Type}(f:α→Nat)(m:Nat):∀{xs:List α},(∀(k:Nat) (a:α),xs[k]? =some a→f a≤m)→(xs.map f).sum≤xs.length*m
 |[],_=>by simp
 |x::xs,h=>by
  have h1:=h 0 x rfl;have h2:=GA f m (xs:=xs) fun k a hk=>h (k+1) a (by simpa using hk)
  simp only[List.map_cons,List.sum_cons,qI,Nat.add_mul];omega
theorem HZ{x:aQ}(h:vg x):xG x≤4000000:=by
 have h1:=GA aM 4000 (xs:=x.actors) fun k a hk=>by have:=(h.acts k a hk).1;unfold aM;omega
 have h2:=h.n1;unfold xG;exact Nat.le_trans h1 (Nat.le_trans (Nat.mul_le_mul_right 4000 h2) (by decide))
def sI(y:aQ)(k:Nat)(a:ah):ah:=(cond (decide ((0:Int)<((k:Nat):Int))) (iO y a ((k:Nat):Int)) (cond (a.todo.headD 0==0) (ku y a) (l8 y a))).2
theorem qw(y:aQ)(k:Nat)(a:ah):(bP y k a).actors=y.actors.set k (sI y k a):=rfl
theorem uj{y:aQ}{k:Nat}{n0:Int}{tl:List Int}{pc t b x:Int}(hpc:pc=0∨pc=1∨pc=2∨pc=3)(hp0:k=0→n0≠0→pc≠3):
  (sI y k ⟨n0::tl,pc,t,b,x⟩=iV ⟨n0::tl,pc,t,b,x⟩)∨((sI y k ⟨n0::tl,pc,t,b,x⟩).todo=n0::tl∧pc<(sI y k ⟨n0::tl,pc,t,b,x⟩).pc∧(sI y k ⟨n0::tl,pc,t,b,x⟩).pc≤3∧(k=0→n0≠0→(sI y k ⟨n0::tl,pc,t,b,x⟩).pc≠3)):=by
 unfold sI
 by_cases hk:k=0
 ·subst hk;rw[show decide ((0:Int)<(((0:Nat):Nat):Int))=false from rfl,qH]
  by_cases hn:n0=0
  ·subst hn;rw[show(List.headD ((0:Int)::tl) 0==0)=true from rfl,qG];rcases hpc with rfl|rfl|rfl|rfl<;>simp only[ku,Bool.cond_eq_ite]<;>simp<;>(repeat' split)<;>simp
  ·rw[show(List.headD (n0::tl) 0==0)=false by simpa using hn,qH];have hp3:=hp0 rfl hn;rcases hpc with rfl|rfl|rfl|rfl<;>simp only[l8,Bool.cond_eq_ite]<;>simp<;>(repeat' split)<;>simp
   all_goals exact absurd rfl hp3
 ·rw[show decide ((0:Int)<((k:Nat):Int))=true by simp;omega,qG];rcases hpc with rfl|rfl|rfl|rfl<;>simp only[iO,Bool.cond_eq_ite]<;>simp<;>(repeat' split)<;>(try simp)<;>omega
theorem DZ{y:aQ}{k:Nat}{n0:Int}{tl:List Int}{pc t b x:Int}(hk:y.actors[k]? =some ⟨n0::tl,pc,t,b,x⟩)(hpc:pc=0∨pc=1∨pc=2∨pc=3)(hp0:k=0→n0≠0→pc≠3):xG (bP y k ⟨n0::tl,pc,t,b,x⟩)+1≤xG y:=by
 unfold xG;have h1:=DK aM (v:=sI y k ⟨n0::tl,pc,t,b,x⟩) hk;rw[←qw]at h1
 have h3:aM (sI y k ⟨n0::tl,pc,t,b,x⟩)+1≤aM ⟨n0::tl,pc,t,b,x⟩:=by
  rcases uj (y:=y) (tl:=tl) (t:=t) (b:=b) (x:=x) hpc hp0 with h|⟨h,h4,h5,_⟩
  ·rw[h];simp only[aM,iV,List.tail_cons,qI];omega
  ·simp only[aM,h,qI];omega
 omega
theorem Cn{y:aQ}{k:Nat}{n0:Int}{tl:List Int}{pc t b x:Int}(h:vg y)(hk:y.actors[k]? =some ⟨n0::tl,pc,t,b,x⟩)(hpc:pc=0∨pc=1∨pc=2∨pc=3)(hp0:k=0→n0≠0→pc≠3)(hf:dK (bP y k ⟨n0::tl,pc,t,b,x⟩)=false):vg (bP y k ⟨n0::tl,pc,t,b,x⟩):=by
 simp only[dK,Bool.or_eq_false_iff,qP]at hf;obtain⟨e1,e2⟩:=um y k ⟨n0::tl,pc,t,b,x⟩;refine⟨e1▸h.b0,e1▸h.b1,by omega,by omega,e2▸h.n1,e2▸h.n0,fun j a hj=> ?_⟩;rw[qw]at hj
 by_cases hkj:k=j
 ·subst hkj;rw[List.getElem?_set_self (qE.1 hk).1]at hj;obtain rfl:=Option.some.inj hj;have h2:=(h.acts k _ hk).1;simp only[qI]at h2;rcases uj (y:=y) (tl:=tl) (t:=t) (b:=b) (x:=x) hpc hp0 with h|⟨h,h4,h5,h6⟩
  ·rw[h];refine⟨?_,.inl rfl,fun _ _=>by simp[iV]⟩;simp only[iV,List.tail_cons];omega
  ·rw[h];refine⟨by simpa using h2,by omega,fun h0 hn=>h6 h0 (by simpa using hn)⟩
 ·rw[List.getElem?_set_ne hkj]at hj;exact h.acts j a hj
end Go.Tr
namespace Go.Proofs.Ytjpaeopdljfjpaa
open Go Go.RowKit Go.Proofs Go.Tr
end Go.Proofs.Ytjpaeopdljfjpaa
