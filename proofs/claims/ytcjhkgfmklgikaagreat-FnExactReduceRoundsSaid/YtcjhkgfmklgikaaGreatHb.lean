
/- Lazy reductions: the demanded ports, in order. No program in it. -/
import Derived.Test.YtcjhkgfmklgikaaGreatHa
set_option linter.unusedSimpArgs false
set_option linter.unusedVariables false
namespace Go.Tr
open Go Go.RowKit
structure Wd(A:List aj)(D:Int→Prop):Prop where
 wi:iy (Live D A) A
 r0:Live D A (0,0)
 r1:(ah A 0).1=1
inductive Ij(A:List aj)(D:Int→Prop):List Int→aD→Prop
 |root:Ij A D [] (0,0)
 |step {l:List Int} {p:aD} (h:Ij A D l p) (h0:(au A p).2=0) (hk:(ah A (au A p).1).1=9) (i:Int) (hi:1≤i) (hn:i<((ah A (au A p).1).2.2.2.2.length:Nat)):Ij A D ((au A p).1 ::l) ((au A p).1,i)
def FZ(A:List aj):List Int→Prop
 |[]=>True
 |c::l=>(au A (c,0)).1=l.headD 0∧FZ A l
section
variable {A:List aj}{D:Int→Prop}
theorem FZ.mem:∀{l:List Int},FZ A l→∀c∈l,(au A (c,0)).1∈l.tail∨(au A (c,0)).1=0
 |c::l,h,x,hx=>by
  rcases List.mem_cons.1 hx with rfl|hx
  ·cases l with
   |nil=>exact .inr h.1
   |cons d l=>exact .inl (by rw[h.1];simp)
  ·rcases h.2.mem x hx with k|k
   ·exact .inl (List.mem_of_mem_tail k)
   ·exact .inr k
structure WT(A:List aj)(D:Int→Prop)(l:List Int)(p:aD):Prop where
 nd:l.Nodup
 ch:FZ A l
 hd:p.1=l.headD 0
 lv:Live D A p
 OW:∀c∈l,(0≤c∧c<(A.length:Nat))∧(ah A c).1=9
theorem Ij.ok(W:Wd A D):∀{l:List Int} {p:aD},Ij A D l p→WT A D l p
 |_,_,.root=>⟨by simp,trivial,rfl,W.r0,fun c hc=>by cases hc⟩
 |_,_,.step (l:=l) (p:=p) h h0 hk i hi hn=>by
  have k:=h.ok W;obtain⟨_,w2,w3,_⟩:=W.wi p k.lv;have hq:au A p=((au A p).1,0):=Prod.ext rfl h0;have hb:au A ((au A p).1,0)=p:=by rw[←hq];exact w3
  have hin:0≤(au A p).1∧(au A p).1<(A.length:Nat):=⟨w2.1.1,w2.1.2.1⟩
  have hne:∀c∈l,c≠0:=fun c hc e=>by
   have:=(k.OW c hc).2;rw[e,W.r1]at this;exact absurd this (by decide)
  have hnot:(au A p).1∉l:=fun hm=>by
   have hp1:p.1=l.headD 0:=k.hd;have hb1:(au A ((au A p).1,0)).1=p.1:=by rw[hb]
   cases l with
   |nil=>cases hm
   |cons d l=>
    have hd:p.1=d:=hp1;rcases k.ch.mem _ hm with e|e
    ·rw[hb1,hd]at e;have hn2:=k.nd;rw[List.nodup_cons]at hn2;exact hn2.1 e
    ·rw[hb1,hd]at e;exact hne d (by simp) e
  refine⟨by rw[List.nodup_cons];exact⟨hnot,k.nd⟩,⟨?_,k.ch⟩,rfl,⟨⟨hin.1,hin.2,by show(0:Int)≤i;omega,hn⟩,w2.2⟩,fun c hc=> ?_⟩
  ·rw[hb];exact k.hd
  ·rcases List.mem_cons.1 hc with rfl|hc
   ·exact⟨hin,hk⟩
   ·exact k.OW c hc
theorem Ij.len(W:Wd A D){l:List Int}{p:aD}(h:Ij A D l p):l.length≤A.length:=by
 have k:=h.ok W;exact wH A.length k.nd fun z hz=>(k.OW z hz).1
end
section
variable {N Y:List aj}{f:Nat→Nat}
end
section
variable {kv:List (Int×Bool)}{xs ys:List aj}
theorem Twin.Yh(T:Twin kv xs ys):Wd ys (Gone kv):=by
 have lx:∀{p:aD},Live (Gone kv) ys p→Live (Gone kv) xs p:=fun {p} ⟨h,hd⟩=>by
  obtain⟨h1,h2,h3,h4⟩:=h;have hl:=T.len;have e:=T.at_ (i:=p.1) h1 (by rw[hl];exact h2) hd;refine⟨⟨h1,by rw[hl];exact h2,h3,?_⟩,hd⟩;have h5:p.2<((ah ys p.1).2.2.2.2.length:Nat):=h4;rw[e]at h5;exact h5
 refine⟨fun p hp=> ?_,⟨T.Yw,T.r0⟩,?_⟩
 ·have hx:=lx hp;obtain⟨w1,w2,w3,w4⟩:=T.st.wi p hx;have e1:=(T.st.ag.port hx.1 hx.2).2;have e2:=T.st.ag.port w2.1 w2.2;rw[e1];exact⟨hp.1,⟨e2.1,w2.2⟩,by rw[e2.2];exact w3,w4⟩
 ·rw[T.at_ (Int.le_refl 0) (by have:=T.rl;omega) T.r0];exact T.r1
theorem Twin.walk(T:Twin kv xs ys):∀(m:Nat) {a:Int},Live (Gone kv) xs (a,0)→gF ys m a=gF xs m a
 |0,_,_=>rfl
 |m+1,a,ha=>by
  have e:=(T.st.ag.port ha.1 ha.2).2;obtain⟨_,w2,_,_⟩:=T.st.wi _ ha;unfold gF;rw[e,T.walk m ⟨⟨w2.1.1,w2.1.2.1,Int.le_refl 0,Int.lt_of_le_of_lt w2.1.2.2.1 w2.1.2.2.2⟩,w2.2⟩]
theorem Twin.val(T:Twin kv xs ys){p:aD}(hp:Live (Gone kv) xs p):fE ys p=fE xs p:=by
 have e:=(T.st.ag.port hp.1 hp.2).2;obtain⟨_,w2,_,_⟩:=T.st.wi _ hp;unfold fE;rw[e,T.at_ w2.1.1 w2.1.2.1 w2.2]
end
end Go.Tr
