
/- The pair on which a value waits: the program's way. -/
import Derived.Test.YtcjhkgfmklgikaaGreatShort
import Derived.Test.YtcjhkgfmklgikaaGreatHc
import Derived.Test.YtcjhkgfmklgikaaGreatNy
set_option linter.unusedSimpArgs false
set_option linter.unusedVariables false
set_option linter.unusedSectionVars false
namespace Go.Tr
open Go Go.RowKit
theorem Mj(l:List Int)(a:Int):elt 0 (l++[a]) (((l++[a]).length:Nat)-1:Int)=a:=by
 unfold elt;have e:((((l++[a]).length:Nat):Int)-1).toNat=l.length:=by rw[qA,qJ];omega
 rw[e,qC,qL (Nat.le_refl _),Nat.sub_self];rfl
structure Ki(A:List aj)(D:Int→Prop)(q0 q:aD)(kv:List (Int×Bool))(path:List Int):Prop where
 lv:Live D A q
 kvp:∀z,bE false kv z=true↔z∈path
 nd:path.Nodup
 pin:∀z∈path,0≤z∧z<(A.length:Nat)
 emp:path=[]→q=q0
 fst_:path≠[]→(q0.2==0)=false∧q0.1∈path
 con:path≠[]→∀m,gF A (path.length+m) q0.1=vW A q (elt 0 path ((path.length:Nat)-1:Int)) m
 cyc:∀z∈path,au A (z,0)=q∨((au A (z,0)).2==0)=false∧(au A (z,0)).1∈path
 wy:way A q0=path++(bif q.2==0 then[]else Dn A (A.length-path.length) q.1)
section
variable {A:List aj}{D:Int→Prop}{q0 q:aD}{kv:List (Int×Bool)}{path:List Int}
theorem Ki.start(h:Live D A q0):Ki A D q0 q0 [] []:=by
 exact⟨h,fun z=>⟨(fun e=>by cases e),(fun e=>by cases e)⟩,by simp,(fun z hz=>by cases hz),fun _=>rfl,fun e=>absurd rfl e,fun e=>absurd rfl e,(fun z hz=>by cases hz),rfl⟩
theorem Ki.len(h:Ki A D q0 q kv path):path.length≤A.length:=wH A.length h.nd h.pin
theorem Ki.next(W:Wd A D)(h:Ki A D q0 q kv path)(h2:(q.2==0)=false)(hs:bE false kv q.1=false):Ki A D q0 (au A (q.1,0)) (fM kv q.1 true) (path++[q.1])∧path.length+1≤A.length:=by
 have hl:=h.lv;have hp:Live D A (q.1,0):=⟨⟨hl.1.1,hl.1.2.1,Int.le_refl 0,Int.lt_of_le_of_lt hl.1.2.2.1 hl.1.2.2.2⟩,hl.2⟩;obtain⟨_,w2,_,_⟩:=W.wi _ hp
 have hnot:q.1∉path:=fun hm=>by
  have:=(h.kvp q.1).2 hm;rw[hs]at this;cases this
 have nd':(path++[q.1]).Nodup:=List.nodup_append.2 ⟨h.nd,by simp,fun a ha b hb e=>by
  rw[qX]at hb;subst hb e;exact hnot ha⟩
 have pin':∀z∈path++[q.1],0≤z∧z<(A.length:Nat):=fun z hz=>by
  rcases qT.1 hz with hz|hz
  ·exact h.pin z hz
  ·rw[qX]at hz;subst hz;exact⟨hl.1.1,hl.1.2.1⟩
 have hlen:(path++[q.1]).length≤A.length:=wH A.length nd' pin';rw[qA,qJ]at hlen;refine⟨⟨w2,fun z=> ?_,nd',pin',fun e=>absurd e (by simp),fun _=> ?_,fun _ m=> ?_,fun z hz=> ?_,?_⟩,hlen⟩
 ·rw[tL]
  by_cases e:q.1=z
  ·rw[if_pos e];subst e;simp
  ·rw[if_neg e,h.kvp z,qT,qX];constructor
   ·exact .inl
   ·rintro(k|k)
    ·exact k
    ·exact absurd k.symm e
 ·cases hpt:path with
  |nil=>
   have e:=h.emp hpt;rw[←e];exact⟨h2,by simp⟩
  |cons a l=>
   have k:=h.fst_ (by rw[hpt];simp);rw[←hpt];exact⟨k.1,List.mem_append_left _ k.2⟩
 ·rw[Mj,qA,qJ];cases hpt:path with
  |nil=>
   have e:=h.emp hpt;rw[←e,qR,show 0+1+m=m+1 by omega];rfl
  |cons a l=>
   have k:=h.con (by rw[hpt];simp) (m+1);rw[ES A q _ m h2]at k;rw[←hpt,show path.length+1+m=path.length+(m+1) by omega];exact k
 ·rcases qT.1 hz with hz|hz
  ·rcases h.cyc z hz with k|⟨k1,k2⟩
   ·rw[k];exact .inr ⟨h2,by simp⟩
   ·exact .inr ⟨k1,List.mem_append_left _ k2⟩
  ·rw[qX]at hz;subst hz;exact .inl rfl
 ·have k:=h.wy;rw[show A.length-path.length=(A.length-(path.length+1))+1 by omega,Ka A q _ h2]at k;rw[k,qA,qJ,qF];rfl
end
end Go.Tr
namespace Go.Proofs.YtcjhkgfmklgikaaGreat
open Go Go.RowKit Go.Proofs Go.Tr
section
variable (A:List aj)(D:Int→Prop)(p:aD)(W:Wd A D)(hk:∀a:Int,0<a→a<(A.length:Nat)→¬D a→(ah A a).1≠1)(hp:Live D A p)(hl:A.length≤1000000)
include W hk hp hl
end
end Go.Proofs.YtcjhkgfmklgikaaGreat
