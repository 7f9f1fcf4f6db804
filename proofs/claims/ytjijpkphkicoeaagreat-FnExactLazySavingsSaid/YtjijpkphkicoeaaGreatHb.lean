
/- Lazy reductions: the demanded ports, in order. No program in it. -/
import Derived.Test.YtjijpkphkicoeaaGreatShort
import Derived.Test.YtjijpkphkicoeaaGreatHa
set_option linter.unusedSimpArgs false
set_option linter.unusedVariables false
namespace Go.Tr
open Go Go.RowKit
def dH(g:aF→Bool×aF)(c:Int)(p:aF):Nat→Bool×aF
 |0=>(true,p)
 |i+1=>bif (dH g c p i).1 then g (c,((i+1:Nat):Int))else dH g c p i
def gD(A:List aj):Nat→aF→Bool×aF
 |0,p=>(true,p)
 |n+1,p=>bif eU A p then(bif (ah A (au A p).1).1==9 then dH (gD A n) (au A p).1 p ((ah A (au A p).1).2.2.2.2.length-1)else(true,p))else(false,p)
structure Wd(A:List aj)(D:Int→Prop):Prop where
 wi:ig (Live D A) A
 r0:Live D A (0,0)
 r1:(ah A 0).1=1
theorem uX{g g2:aF→Bool×aF}{c:Int}{p:aF}:∀{n:Nat},(∀i:Nat,i<n→g (c,((i+1:Nat):Int))=g2 (c,((i+1:Nat):Int)))→dH g c p n=dH g2 c p n
 |0,_=>rfl
 |n+1,h=>by
  unfold dH;rw[uX fun i hi=>h i (by omega),h n (by omega)]
inductive I9(A:List aj)(D:Int→Prop):List Int→aF→Prop
 |root:I9 A D [] (0,0)
 |step {l:List Int} {p:aF} (h:I9 A D l p) (h0:(au A p).2=0) (hk:(ah A (au A p).1).1=9) (i:Int) (hi:1≤i) (hn:i<((ah A (au A p).1).2.2.2.2.length:Nat)):I9 A D ((au A p).1 ::l) ((au A p).1,i)
def Gw(A:List aj):List Int→Prop
 |[]=>True
 |c::l=>(au A (c,0)).1=l.headD 0∧Gw A l
section
variable {A:List aj}{D:Int→Prop}
theorem Gw.mem:∀{l:List Int},Gw A l→∀c∈l,(au A (c,0)).1∈l.tail∨(au A (c,0)).1=0
 |c::l,h,x,hx=>by
  rcases List.mem_cons.1 hx with rfl|hx
  ·cases l with
   |nil=>exact .inr h.1
   |cons d l=>exact .inl (by rw[h.1];simp)
  ·rcases h.2.mem x hx with k|k
   ·exact .inl (List.mem_of_mem_tail k)
   ·exact .inr k
structure Yh(A:List aj)(D:Int→Prop)(l:List Int)(p:aF):Prop where
 nd:l.Nodup
 ch:Gw A l
 hd:p.1=l.headD 0
 lv:Live D A p
 P6:∀c∈l,(0≤c∧c<(A.length:Nat))∧(ah A c).1=9
theorem I9.ok(W:Wd A D):∀{l:List Int} {p:aF},I9 A D l p→Yh A D l p
 |_,_,.root=>⟨by simp,trivial,rfl,W.r0,fun c hc=>by cases hc⟩
 |_,_,.step (l:=l) (p:=p) h h0 hk i hi hn=>by
  have k:=h.ok W;obtain⟨_,w2,w3,_⟩:=W.wi p k.lv;have hq:au A p=((au A p).1,0):=Prod.ext rfl h0;have hb:au A ((au A p).1,0)=p:=by rw[←hq];exact w3
  have hin:0≤(au A p).1∧(au A p).1<(A.length:Nat):=⟨w2.1.1,w2.1.2.1⟩
  have hne:∀c∈l,c≠0:=fun c hc e=>by
   have:=(k.P6 c hc).2;rw[e,W.r1]at this;exact absurd this (by decide)
  have hnot:(au A p).1∉l:=fun hm=>by
   have hp1:p.1=l.headD 0:=k.hd;have hb1:(au A ((au A p).1,0)).1=p.1:=by rw[hb]
   cases l with
   |nil=>cases hm
   |cons d l=>
    have hd:p.1=d:=hp1;rcases k.ch.mem _ hm with e|e
    ·rw[hb1,hd]at e;have hn2:=k.nd;rw[List.nodup_cons]at hn2;exact hn2.1 e
    ·rw[hb1,hd]at e;exact hne d (by simp) e
  refine⟨by rw[List.nodup_cons];exact⟨hnot,k.nd⟩,⟨?_,k.ch⟩,rfl,⟨⟨hin.1,hin.2,by show(0:Int)≤i;omega,hn⟩,w2.2⟩,fun c hc=> ?_⟩
  ·rw[hb];exact k.hd
  ·rcases List.mem_cons.1 hc with rfl|hc
   ·exact⟨hin,hk⟩
   ·exact k.P6 c hc
theorem I9.len(W:Wd A D){l:List Int}{p:aF}(h:I9 A D l p):l.length≤A.length:=by
 have k:=h.ok W;exact wC A.length k.nd fun z hz=>(k.P6 z hz).1
theorem Fz(W:Wd A D):∀(m:Nat) {l:List Int} {p:aF},I9 A D l p→A.length+1≤l.length+m→∀m2:Nat,m≤m2→gD A m2 p=gD A m p
 |0,l,p,h,hl,_,_=>by have:=h.len W;omega
 |m+1,l,p,h,hl,m2+1,hm=>by
  unfold gD;cases hv:eU A p with
  |false=>rfl
  |true=>
   cases hk:(ah A (au A p).1).1==9 with
   |false=>rfl
   |true=>
    have h0:(au A p).2=0:=by
     unfold eU at hv;cases hkb:nk (ah A (au A p).1).1 with
     |false=>rw[hkb]at hv;cases hv
     |true=>rw[hkb]at hv;simpa using hv
    rw[qG,qG,qG,qG];exact uX fun i hi=>Fz W m (.step h h0 (by simpa using hk) ((i+1:Nat):Int) (by omega) (by omega)) (by rw[qI];omega) m2 (by omega)
end
section
variable {N Y:List aj}{f:Nat→Nat}
theorem KN{g g2:aF→Bool×aF}{c:Int}{p:aF}{F:Int→Int}:∀{n:Nat},(∀i:Nat,i<n→g2 (F c,((i+1:Nat):Int))=((g (c,((i+1:Nat):Int))).1,jv F (g (c,((i+1:Nat):Int))).2))→dH g2 (F c) (jv F p) n=((dH g c p n).1,jv F (dH g c p n).2)
 |0,_=>rfl
 |n+1,h=>by
  unfold dH;rw[KN (g:=g) fun i hi=>h i (by omega),h n (by omega)];cases hb:(dH g c p n).1 with
  |true=>rfl
  |false=>
   show((false,jv F (dH g c p n).2):Bool×aF)=((dH g c p n).1,jv F (dH g c p n).2);rw[hb]
theorem Ren.gD(h:Ren f N Y)(hA:aW N):∀(m:Nat) {p:aF},ak N p→Tr.gD Y m (jv (fI f) p)=((Tr.gD N m p).1,jv (fI f) (Tr.gD N m p).2)
 |0,_,_=>rfl
 |m+1,p,hp=>by
  have hn:=hA _ hp;have hpe:=h.peer hp;unfold Tr.gD;rw[h.eU hA hp,hpe];have e1:(jv (fI f) (au N p)).1=fI f (au N p).1:=rfl;rw[e1,h.EF hn.1 hn.2.1,kL];cases Tr.eU N p with
  |false=>rfl
  |true=>
   show(bif (ah N (au N p).1).1==9 then dH (Tr.gD Y m) (fI f (au N p).1) (jv (fI f) p) ((ah N (au N p).1).2.2.2.2.length-1)else(true,jv (fI f) p))=_;cases (ah N (au N p).1).1==9 with
   |false=>rfl
   |true=>exact KN fun i hi=>h.gD hA m (p:=((au N p).1,((i+1:Nat):Int))) ⟨hn.1,hn.2.1,by show(0:Int)≤((i+1:Nat):Int);omega,by show((i+1:Nat):Int)<((ah N (au N p).1).2.2.2.2.length:Nat);omega⟩
end
section
variable {kv:List (Int×Bool)}{xs ys:List aj}
theorem Twin.wd(T:Twin kv xs ys):Wd xs (Gone kv):=⟨T.st.wi,⟨T.p0,T.r0⟩,T.r1⟩
theorem Twin.ZA(T:Twin kv xs ys):Wd ys (Gone kv):=by
 have lx:∀{p:aF},Live (Gone kv) ys p→Live (Gone kv) xs p:=fun {p} ⟨h,hd⟩=>by
  obtain⟨h1,h2,h3,h4⟩:=h;have hl:=T.len;have e:=T.at_ (i:=p.1) h1 (by rw[hl];exact h2) hd;refine⟨⟨h1,by rw[hl];exact h2,h3,?_⟩,hd⟩;have h5:p.2<((ah ys p.1).2.2.2.2.length:Nat):=h4;rw[e]at h5;exact h5
 refine⟨fun p hp=> ?_,⟨T.Yg,T.r0⟩,?_⟩
 ·have hx:=lx hp;obtain⟨w1,w2,w3,w4⟩:=T.st.wi p hx;have e1:=(T.st.ag.port hx.1 hx.2).2;have e2:=T.st.ag.port w2.1 w2.2;rw[e1];exact⟨hp.1,⟨e2.1,w2.2⟩,by rw[e2.2];exact w3,w4⟩
 ·rw[T.at_ (Int.le_refl 0) (by have:=T.rl;omega) T.r0];exact T.r1
theorem Twin.walk(T:Twin kv xs ys):∀(m:Nat) {a:Int},Live (Gone kv) xs (a,0)→fV ys m a=fV xs m a
 |0,_,_=>rfl
 |m+1,a,ha=>by
  have e:=(T.st.ag.port ha.1 ha.2).2;obtain⟨_,w2,_,_⟩:=T.st.wi _ ha;unfold fV;rw[e,T.walk m ⟨⟨w2.1.1,w2.1.2.1,Int.le_refl 0,Int.lt_of_le_of_lt w2.1.2.2.1 w2.1.2.2.2⟩,w2.2⟩]
theorem Twin.val(T:Twin kv xs ys){p:aF}(hp:Live (Gone kv) xs p):eU ys p=eU xs p:=by
 have e:=(T.st.ag.port hp.1 hp.2).2;obtain⟨_,w2,_,_⟩:=T.st.wi _ hp;unfold eU;rw[e,T.at_ w2.1.1 w2.1.2.1 w2.2]
theorem Twin.dem(T:Twin kv xs ys):∀(m:Nat) {p:aF},Live (Gone kv) xs p→gD ys m p=gD xs m p
 |0,_,_=>rfl
 |m+1,p,hp=>by
  have e:=(T.st.ag.port hp.1 hp.2).2;obtain⟨_,w2,_,_⟩:=T.st.wi _ hp;unfold gD;rw[T.val hp,e,T.at_ w2.1.1 w2.1.2.1 w2.2];cases eU xs p with
  |false=>rfl
  |true=>
   cases (ah xs (au xs p).1).1==9 with
   |false=>rfl
   |true=>exact uX fun i hi=>T.dem m ⟨⟨w2.1.1,w2.1.2.1,by show(0:Int)≤((i+1:Nat):Int);omega,by show((i+1:Nat):Int)<((ah xs (au xs p).1).2.2.2.2.length:Nat);omega⟩,w2.2⟩
end
end Go.Tr
