
/- Deques. Printed by gx_dq.py. -/
import Derived.Test.YtjpaeopdljfjpaaShort
import Derived.Test.YtjpaeopdljfjpaaProg
import Derived.Test.YtjpaeopdljfjpaaSc
import Derived.Test.YtjpaeopdljfjpaaDDq
import Derived.Test.YtjpaeopdljfjpaaNet
import Derived.IntWalk
import Derived.Test.YtjpaeopdljfjpaaDq8
import Derived.Test.YtjpaeopdljfjpaaDq6
import Derived.Test.YtjpaeopdljfjpaaDq5
set_option linter.unusedSimpArgs false
set_option linter.unusedVariables false
namespace Go.Tr
structure vg(x:aQ):Prop where
 b0:0<x.buffer.length
 b1:x.buffer.length≤1000
 h1:x.taken.length≤1000
 r1:x.refused.length≤1000
 n1:x.actors.length≤1000
 n0:0<x.actors.length
 acts:∀(k:Nat) (a:ah),x.actors[k]? =some a→a.todo.length≤1000∧(a.pc=0∨a.pc=1∨a.pc=2∨a.pc=3)∧(k=0→a.todo.headD 0≠0→a.pc≠3)
theorem D5{a:ah}{ow:Bool}(h:aT a ow=true):a.todo.length≤1000∧(a.pc=0∨a.pc=1∨a.pc=2∨a.pc=3)∧(a.todo.headD 0≠0→a.pc≠3):=by
 obtain⟨td,pc,t,b,x⟩:=a;simp only[aT,qD,Bool.not_eq_true',qP]at h;obtain⟨⟨⟨⟨⟨⟨h1,h2⟩,_⟩,_⟩,_⟩,_⟩,h3⟩:=h;have h2':=oZ h2;refine⟨by show td.length≤1000;omega,by show pc=0∨pc=1∨pc=2∨pc=3;have h2':0≤pc∧pc≤3:=h2';omega,fun hn hp=> ?_⟩;cases td with
 |nil=>simp at hn
 |cons n tl=>
  simp only[List.headD_cons]at hn;subst hp;have e1:((3:Int)==0||(((n::tl).length:Nat):Int)==0)=false:=by simp;omega
  rw[e1,qH]at h3;have e2:(n !=0)=true:=by simpa using hn
  simp only[bW,List.getElem?_cons_zero,e2,qG,qD,qQ]at h3;omega
theorem AY{x:aQ}(h:okB x=true):vg x:=by
 simp only[okB,qD,Bool.not_eq_true',qP]at h;obtain⟨⟨⟨⟨⟨⟨⟨⟨⟨⟨h1,_⟩,_⟩,h2⟩,h3⟩,h4⟩,_⟩,h5⟩,_⟩,_⟩,_⟩:=h;have h1:=oZ h1;have h2:=oZ h2;refine⟨by omega,by omega,by omega,by omega,by omega,by omega,fun k a hk=> ?_⟩;have h6:=zT h5 (qE.1 hk).1;simp only[pJ,hk]at h6;obtain⟨e1,e2,e3⟩:=D5 h6;exact⟨e1,e2,fun _=>e3⟩
theorem vg.stp{x:aQ}(h:vg x){k:Nat}{n0:Int}{tl:List Int}{pc t b v:Int}(hk:x.actors[k]? =some ⟨n0::tl,pc,t,b,v⟩):
  tl.length≤1000∧(pc=0∨pc=1∨pc=2∨pc=3)∧(k=0→n0≠0→pc≠3)∧k≤1000:=by
 obtain⟨h1,h2,h3⟩:=h.acts k _ hk;have h4:=(qE.1 hk).1;have:=h.n1;simp only[qI]at h1;exact⟨by omega,h2,h3,by omega⟩
theorem EM{a:ah}(h:a.todo≠[]):∃n0 tl pc t b v,a=⟨n0::tl,pc,t,b,v⟩:=by
 obtain⟨td,pc,t,b,v⟩:=a;cases td with
 |nil=>exact absurd rfl h
 |cons n tl=>exact⟨n,tl,pc,t,b,v,rfl⟩
theorem um(y:aQ)(k:Nat)(a:ah):(bP y k a).buffer.length=y.buffer.length∧(bP y k a).actors.length=y.actors.length:=by
 unfold bP jV;simp only[Bool.cond_eq_ite]
 (repeat' split)<;>simp only[iO,ku,l8,Bool.cond_eq_ite]<;>(repeat' split)<;>simp
end Go.Tr
namespace Go.Proofs.Ytjpaeopdljfjpaa
open Go Go.RowKit Go.Proofs Go.Tr
end Go.Proofs.Ytjpaeopdljfjpaa
