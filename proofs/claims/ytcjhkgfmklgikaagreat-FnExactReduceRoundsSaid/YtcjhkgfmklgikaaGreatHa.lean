
/- Lazy reductions: from a port to the pair on which its value waits; the ports that are demanded. No program in it. -/
import Derived.Test.YtcjhkgfmklgikaaGreatShort
import Derived.Test.YtcjhkgfmklgikaaGreatYd
set_option linter.unusedSimpArgs false
set_option linter.unusedVariables false
namespace Go.Tr
open Go Go.RowKit
theorem xL{a:Int}:∀{l:List Int},l.Nodup→l.length≤(l.filter fun z=>decide (z≠a)).length+1
 |[],_=>by simp
 |b::l,h=>by
  rw[List.nodup_cons]at h
  by_cases e:b=a
  ·subst e
   have:l.filter (fun z=>decide (z≠b))=l:=List.filter_eq_self.2 fun z hz=>by
    have:z≠b:=fun e=>h.1 (e▸hz)
    simpa using this
   rw[List.filter_cons];simp only[ne_eq,not_true_eq_false,decide_false,Bool.false_eq_true,if_false,qI];rw[this];omega
  ·have ih:=xL (a:=a) h.2;rw[List.filter_cons,if_pos (by simpa using e),qI,qI];omega
theorem wH:∀(n:Nat) {l:List Int},l.Nodup→(∀z∈l,0≤z∧z<(n:Int))→l.length≤n
 |0,l,_,h=>by
  cases l with
  |nil=>simp
  |cons a l=>have:=h a (by simp);omega
 |n+1,l,hn,h=>by
  have h1:=wH n (l:=l.filter fun z=>decide (z≠(n:Int))) (hn.filter _) fun z hz=>by
   rw[List.mem_filter]at hz;have:=h z hz.1;have h2:z≠(n:Int):=by simpa using hz.2
   omega
  have:=xL (a:=(n:Int)) hn;omega
def nD(k:Int):Bool:=bif k==2 then true else bif k==6 then true else bif k==9 then true else k==12
def fE(A:List aj)(p:aD):Bool:=bif nD (ah A (au A p).1).1 then(au A p).2==0 else false
def gF(A:List aj):Nat→Int→Option (Int×Int)
 |0,_=>none
 |n+1,a=>bif (au A (a,0)).2==0 then(bif (au A (a,0)).1==0 then none else some (a,(au A (a,0)).1))else gF A n (au A (a,0)).1
section
variable {A N P Y:List aj}{f:Nat→Nat}
theorem Ren.fI0(h:Ren f N Y){z:Int}:(fI f z==0)=(z==0):=by
 have e0:fI f 0=0:=by
  rw[iP (Int.le_refl 0)];show((f 0:Nat):Int)=0;rw[h.zero];rfl
 rw[Bool.eq_iff_iff,beq_iff_eq,beq_iff_eq]
 conv=>lhs;rhs;rw[←e0]
 exact h.VF
theorem Ren.gF(h:Ren f N Y)(hA:bf N):∀(m:Nat) {a:Int},ak N (a,0)→Tr.gF Y m (fI f a)=(Tr.gF N m a).map (pF f)
 |0,_,_=>rfl
 |m+1,a,hp=>by
  have hpe:=h.peer hp;have e1:jI (fI f) ((a,0):aD)=(fI f a,0):=rfl;rw[e1]at hpe;have hn:=hA _ hp;have hp2:ak N ((au N (a,0)).1,0):=⟨hn.1,hn.2.1,Int.le_refl 0,Int.lt_of_le_of_lt hn.2.2.1 hn.2.2.2⟩;unfold Tr.gF;rw[hpe];show(bif (au N (a,0)).2==0 then(bif fI f (au N (a,0)).1==0 then none else some (fI f a,fI f (au N (a,0)).1))else Tr.gF Y m (fI f (au N (a,0)).1))=_;rw[h.fI0];cases (au N (a,0)).2==0 with
  |true=>cases (au N (a,0)).1==0<;>rfl
  |false=>exact h.gF hA m hp2
theorem Ren.fE(h:Ren f N Y)(hA:bf N){p:aD}(hp:ak N p):Tr.fE Y (jI (fI f) p)=Tr.fE N p:=by
 have hn:=hA _ hp;unfold Tr.fE;rw[h.peer hp];show(bif nD (ah Y (fI f (au N p).1)).1 then(au N p).2==0 else false)=_;rw[h.Ej hn.1 hn.2.1];rfl
end
end Go.Tr
