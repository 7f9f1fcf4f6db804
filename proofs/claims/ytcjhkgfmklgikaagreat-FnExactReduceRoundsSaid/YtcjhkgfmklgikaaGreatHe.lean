
/- The pair on which a value waits: the reference's way. Printed by gen_he.py. -/
import Derived.Test.YtcjhkgfmklgikaaGreatShort
import Derived.Test.YtcjhkgfmklgikaaGreatHd
set_option linter.unusedSimpArgs false
set_option linter.unusedVariables false
set_option linter.unusedSectionVars false
namespace Go.Tr
open Go Go.RowKit
structure Ip(A:List aj)(D:Int→Prop)(q0 q:aD)(path:List Int):Prop where
 lv:Live D A q
 le:path.length≤A.length
 emp:path=[]→q=q0
 fst_:path≠[]→(q0.2==0)=false∧(q.2=0→q.1=0)
 con:path≠[]→∀m,gF A (path.length+m) q0.1=vW A q (elt 0 path ((path.length:Nat)-1:Int)) m
 wy:way A q0=path++(bif q.2==0 then[]else Dn A (A.length-path.length) q.1)
section
variable {A:List aj}{D:Int→Prop}{q0 q:aD}{path:List Int}
theorem Ip.start(h:Live D A q0):Ip A D q0 q0 []:=⟨h,Nat.zero_le _,fun _=>rfl,fun e=>absurd rfl e,fun e=>absurd rfl e,rfl⟩
theorem Ip.step(W:Wd A D)(h:Ip A D q0 q path)(h2:(q.2==0)=false)(hs:path.length<A.length):
  Live D A (q.1,0)∧Live D A (au A (q.1,0))∧(q0.2==0)=false∧(∀m,gF A ((path++[q.1]).length+m) q0.1=vW A (au A (q.1,0)) q.1 m)∧way A q0=(path++[q.1])++(bif (au A (q.1,0)).2==0 then[]else Dn A (A.length-(path++[q.1]).length) (au A (q.1,0)).1):=by
 have hl:=h.lv;have hp:Live D A (q.1,0):=⟨⟨hl.1.1,hl.1.2.1,Int.le_refl 0,Int.lt_of_le_of_lt hl.1.2.2.1 hl.1.2.2.2⟩,hl.2⟩;obtain⟨_,w2,_,_⟩:=W.wi _ hp;refine⟨hp,w2,?_,fun m=> ?_,?_⟩
 ·cases hpt:path with
  |nil=>rw[←h.emp hpt];exact h2
  |cons a l=>exact(h.fst_ (by rw[hpt];simp)).1
 ·rw[qA,qJ];cases hpt:path with
  |nil=>
   have e:=h.emp hpt;rw[←e,qR,show 0+1+m=m+1 by omega];rfl
  |cons a l=>
   have k:=h.con (by rw[hpt];simp) (m+1);rw[ES A q _ m h2]at k;rw[←hpt,show path.length+1+m=path.length+(m+1) by omega];exact k
 ·have k:=h.wy;rw[show A.length-path.length=(A.length-(path.length+1))+1 by omega,Ka A q _ h2]at k;rw[k,qA,qJ,qF];rfl
theorem Ip.next(W:Wd A D)(h:Ip A D q0 q path)(h2:(q.2==0)=false)(hs:path.length<A.length)(he:(bif (au A (q.1,0)).2==0 then(au A (q.1,0)).1 !=0 else false)=false):Ip A D q0 (au A (q.1,0)) (path++[q.1]):=by
 obtain⟨_,k2,k3,k4,k5⟩:=h.step W h2 hs;refine⟨k2,by rw[qA,qJ];omega,fun e=>absurd e (by simp),fun _=>⟨k3,fun hz=> ?_⟩,fun _ m=> ?_,k5⟩
 ·rw[hz]at he;simpa using he
 ·rw[Mj];exact k4 m
end
end Go.Tr
namespace Go.Proofs.YtcjhkgfmklgikaaGreat
open Go Go.RowKit Go.Proofs Go.Tr
section
variable (A:List aj)(D:Int→Prop)(p:aD)(W:Wd A D)(hA:bf A)(hp:Live D A p)(hl:A.length≤1000000)
include W hA hp hl
end
end Go.Proofs.YtcjhkgfmklgikaaGreat
