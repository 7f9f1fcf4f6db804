
/- Wires as a partial involution; two ends are glued; what two rewritings far from each other have in common. No program in it. -/
import Derived.Test.YtbdimbjclhmeoaaGreatShort
import Derived.Test.YtbdimbjclhmeoaaGreatNy
set_option linter.unusedSimpArgs false
set_option linter.unusedVariables false
namespace Go.Tr
open Go Go.RowKit
abbrev VP:=Bool×aC
abbrev Wi:=VP→Option VP
def glue(u v:VP)(σ:Wi):Wi:=fun t=>if t=u∨t=v then none else if σ t=some u then σ v else if σ t=some v then σ u else σ t
def Cm(σ:Wi):Prop:=∀p q,σ p=some q→σ q=some p∧q≠p
theorem wh{u v:VP}{σ:Wi}(h:Cm σ)(n:u≠v):Cm (glue u v σ):=by
 intro p q;unfold glue;have:=h p;have:=h q;have:=h u;have:=h v
 grind
theorem PU{u v a b:VP}{σ:Wi}(h:Cm σ)(n1:u≠v)(n2:a≠b)(n3:u≠a)(n4:u≠b)(n5:v≠a)(n6:v≠b):glue u v (glue a b σ)=glue a b (glue u v σ):=by
 funext t
 have:=h t;have:=h u;have:=h v;have:=h a;have:=h b
 unfold glue
 grind
abbrev GL:=List (VP×VP)
def gV(φ:GL)(σ:Wi):Wi:=φ.foldl (fun σ e=>glue e.1 e.2 σ) σ
theorem nL(e:VP×VP)(φ:GL)(σ:Wi):gV (e::φ) σ=gV φ (glue e.1 e.2 σ):=rfl
theorem tO(φ ψ:GL)(σ:Wi):gV (φ++ψ) σ=gV ψ (gV φ σ):=List.foldl_append ..
def GOk(φ:GL):Prop:=∀e∈φ,e.1≠e.2
def La(e f:VP×VP):Prop:=e.1≠f.1∧e.1≠f.2∧e.2≠f.1∧e.2≠f.2
theorem CZ{e:VP×VP}(he:e.1≠e.2):∀{φ:GL} {σ:Wi},GOk φ→Cm σ→(∀f∈φ,La e f)→glue e.1 e.2 (gV φ σ)=gV φ (glue e.1 e.2 σ)
 |[],_,_,_,_=>rfl
 |f::φ,σ,hφ,h,ha=>by
  have hf:=hφ f (List.mem_cons_self ..);obtain⟨a1,a2,a3,a4⟩:=ha f (List.mem_cons_self ..);rw[nL,nL,CZ he (fun f hf=>hφ f (List.mem_cons_of_mem _ hf)) (wh h hf) fun f hf=>ha f (List.mem_cons_of_mem _ hf),PU h he hf a1 a2 a3 a4]
theorem C8:∀{φ ψ:GL} {σ:Wi},GOk φ→GOk ψ→Cm σ→(∀e∈φ,∀f∈ψ,La e f)→gV φ (gV ψ σ)=gV ψ (gV φ σ)
 |[],_,_,_,_,_,_=>rfl
 |e::φ,ψ,σ,hφ,hψ,h,ha=>by
  have he:=hφ e (List.mem_cons_self ..);rw[nL,nL,CZ he hψ h (ha e (List.mem_cons_self ..)),C8 (fun f hf=>hφ f (List.mem_cons_of_mem _ hf)) hψ (wh h he) fun f hf=>ha f (List.mem_cons_of_mem _ hf)]
abbrev W0:=Bool×Nat×Int→Option (Bool×Nat×Int)
def fD(n:Int)(k:Nat)(t:VP):Prop:=n≤t.2.1∧t.2.1<n+k
instance (n:Int)(k:Nat)(t:VP):Decidable (fD n k t):=by unfold fD;exact inferInstance
def GN(n:Int)(q:Bool×Nat×Int):VP:=(q.1,(n+q.2.1,q.2.2))
def je(n:Int)(k:Nat)(τ:W0)(σ:Wi):Wi:=fun t=>if fD n k t then(τ (t.1,(t.2.1-n).toNat,t.2.2)).map (GN n)else σ t
def p9(n:Int)(k:Nat)(σ:Wi):Prop:=∀t,fD n k t→σ t=none
structure UO(k:Nat)(τ:W0):Prop where
 lt:∀p q,τ p=some q→p.2.1<k∧q.2.1<k
 inv:∀p q,τ p=some q→τ q=some p∧q≠p
theorem QY{n:Int}{k:Nat}{q:Bool×Nat×Int}(h:q.2.1<k):fD n k (GN n q):=by unfold fD GN;simp only;omega
theorem QX{n:Int}{k:Nat}{t:VP}(h:fD n k t):GN n (t.1,(t.2.1-n).toNat,t.2.2)=t:=by
 unfold fD at h;unfold GN;obtain⟨a,b,c⟩:=t;simp only[Prod.mk.injEq,true_and,and_true]at*;omega
theorem Np(n:Int)(q:Bool×Nat×Int):((GN n q).1,((GN n q).2.1-n).toNat,(GN n q).2.2)=q:=by
 obtain⟨a,b,c⟩:=q;unfold GN;simp only[Prod.mk.injEq,true_and,and_true];omega
theorem kJ{n:Int}{k:Nat}{τ:W0}{σ:Wi}{t:VP}(h:fD n k t):je n k τ σ t=(τ (t.1,(t.2.1-n).toNat,t.2.2)).map (GN n):=by unfold je;rw[if_pos h]
theorem dQ{n:Int}{k:Nat}{τ:W0}{σ:Wi}{t:VP}(h:¬fD n k t):je n k τ σ t=σ t:=by unfold je;rw[if_neg h]
theorem y5{n:Int}{k:Nat}{τ:W0}{σ:Wi}(hτ:UO k τ)(h:Cm σ)(hf:p9 n k σ):Cm (je n k τ σ):=by
 intro p q hp;unfold je at hp ⊢
 by_cases hb:fD n k p
 ·rw[if_pos hb]at hp;cases hq:τ (p.1,(p.2.1-n).toNat,p.2.2)with
  |none=>rw[hq]at hp;cases hp
  |some r=>
   rw[hq]at hp;have e:GN n r=q:=by simpa using hp
   obtain⟨i1,i2⟩:=hτ.inv _ _ hq;have l2:=(hτ.lt _ _ hq).2;subst e;rw[if_pos (QY l2),Np,i1];refine⟨by simp only[Option.map_some];rw[QX hb],fun e=>i2 ?_⟩;rw[←e,Np]
 ·rw[if_neg hb]at hp;obtain⟨h1,h2⟩:=h _ _ hp;rw[if_neg fun e=>by rw[hf q e]at h1;cases h1];exact⟨h1,h2⟩
theorem PN{n:Int}{k:Nat}{τ:W0}{σ:Wi}{u v:VP}(hτ:UO k τ)(hu:¬fD n k u)(hv:¬fD n k v):je n k τ (glue u v σ)=glue u v (je n k τ σ):=by
 funext t
 by_cases hb:fD n k t
 ·have hn:∀w,¬fD n k w→(τ (t.1,(t.2.1-n).toNat,t.2.2)).map (GN n)≠some w:=fun w hw e=>by
   cases hq:τ (t.1,(t.2.1-n).toNat,t.2.2)with
   |none=>rw[hq]at e;cases e
   |some r=>
    rw[hq]at e;have e2:GN n r=w:=by simpa using e
    rw[←e2]at hw;exact hw (QY (hτ.lt _ _ hq).2)
  rw[kJ hb];unfold glue;rw[kJ hb,if_neg (by rintro(e|e)<;>subst e<;>contradiction),if_neg (hn u hu),if_neg (hn v hv)]
 ·rw[dQ hb];unfold glue;rw[dQ hb,dQ hu,dQ hv]
theorem p9.glue{n:Int}{k:Nat}{σ:Wi}{u v:VP}(hf:p9 n k σ):p9 n k (glue u v σ):=by
 intro t ht;unfold Tr.glue;rw[hf t ht];simp
def UW(n:Int)(k:Nat)(φ:GL):Prop:=∀e∈φ,¬fD n k e.1∧¬fD n k e.2
theorem p9.gV{n:Int}{k:Nat}:∀{φ:GL} {σ:Wi},p9 n k σ→p9 n k (gV φ σ)
 |[],_,h=>h
 |_::φ,_,h=>p9.gV (φ:=φ) h.glue
theorem uR{n:Int}{k:Nat}{τ:W0}(hτ:UO k τ):∀{φ:GL} {σ:Wi},UW n k φ→je n k τ (gV φ σ)=gV φ (je n k τ σ)
 |[],_,_=>rfl
 |e::φ,σ,ho=>by
  obtain⟨o1,o2⟩:=ho e (List.mem_cons_self ..);rw[nL,nL,uR hτ (φ:=φ) fun f hf=>ho f (List.mem_cons_of_mem _ hf),PN hτ o1 o2]
def xC(f:Int→Int)(t:VP):VP:=(t.1,(f t.2.1,t.2.2))
def U3(f:Int→Int)(σ σ':Wi):Prop:=∀t,σ' (xC f t)=(σ t).map (xC f)
theorem Wz{f:Int→Int}(hf:∀a b,f a=f b→a=b){s t:VP}(h:xC f s=xC f t):s=t:=by
 obtain⟨a,b,c⟩:=s;obtain⟨a',b',c'⟩:=t;unfold xC at h;simp only[Prod.mk.injEq]at h ⊢;exact⟨h.1,hf _ _ h.2.1,h.2.2⟩
theorem U3.glue{f:Int→Int}(hf:∀a b,f a=f b→a=b){σ σ':Wi}(h:U3 f σ σ')(u v:VP):U3 f (glue u v σ) (glue (xC f u) (xC f v) σ'):=by
 intro t;unfold Tr.glue;have hi:∀s t,xC f s=xC f t↔s=t:=fun s t=>⟨Wz hf,fun e=>by rw[e]⟩
 rw[h t,h u,h v];simp only[hi]
 have hm:∀(o:Option VP) (w:VP),o.map (xC f)=some (xC f w)↔o=some w:=fun o w=>by
  cases o with
  |none=>simp
  |some o=>simp[hi]
 simp only[hm];split
 ·rfl
 ·split
  ·rfl
  ·split<;>rfl
def rnG(f:Int→Int)(φ:GL):GL:=φ.map fun e=>(xC f e.1,xC f e.2)
theorem U3.gV{f:Int→Int}(hf:∀a b,f a=f b→a=b):∀{φ:GL} {σ σ':Wi},U3 f σ σ'→U3 f (gV φ σ) (gV (rnG f φ) σ')
 |[],_,_,h=>h
 |e::φ,_,_,h=>U3.gV (φ:=φ) hf (h.glue hf e.1 e.2)
structure Rel(xs:List aj)(L X:aC→Prop)(σ:Wi):Prop where
 inn:∀p,L p→ak xs p
 sub:∀p,X p→L p
 re:∀p,L p→¬X p→σ (false,p)=some (false,ay xs p)
 st:∀p,X p→σ (false,p)=some (true,p)
 no:∀p,¬L p→σ (false,p)=none
 nv:∀p,¬X p→σ (true,p)=none
 wi:Cm σ
section
variable {xs:List aj}{L X L' X':aC→Prop}{σ:Wi}{p q:aC}
theorem Rel.congr(h:Rel xs L X σ)(hL:∀r,L' r↔L r)(hX:∀r,X' r↔X r):Rel xs L' X' σ:=by
 have e1:L'=L:=funext fun r=>propext (hL r)
 have e2:X'=X:=funext fun r=>propext (hX r)
 rw[e1,e2];exact h
theorem Rel.tr(h:Rel xs L X σ)(hp:X p):σ (true,p)=some (false,p):=(h.wi _ _ (h.st p hp)).1
theorem Rel.peer(h:Rel xs L X σ)(hp:L p)(hx:¬X p):L (ay xs p)∧¬X (ay xs p)∧ay xs (ay xs p)=p∧ay xs p≠p:=by
 obtain⟨h1,h2⟩:=h.wi _ _ (h.re p hp hx);have l1:L (ay xs p):=Classical.byContradiction fun e=>by rw[h.no _ e]at h1;cases h1
 have l2:¬X (ay xs p):=fun e=>by rw[h.st _ e]at h1;cases h1
 refine⟨l1,l2,?_,fun e=>h2 (by rw[e])⟩;have h3:=h.re _ l1 l2;rw[h1]at h3;simpa using h3.symm
theorem Rel.link(h:Rel xs L X σ)(hp:X p)(hq:X q)(n:p≠q):Rel (bE xs p q) L (fun r=>X r∧r≠p∧r≠q) (glue (true,p) (true,q) σ):=by
 have ip:=h.inn p (h.sub p hp);have iq:=h.inn q (h.sub q hq);have tp:=h.tr hp;have tq:=h.tr hq;have sp:=h.st p hp;have sq:=h.st q hq;refine⟨fun r hr=>(h.inn r hr).link,fun r hr=>h.sub r hr.1,fun r hr hx=> ?_,fun r hr=> ?_,fun r hr=> ?_,fun r hr=> ?_,wh h.wi (by simpa using n)⟩
 ·rw[gu ip iq (h.inn r hr)];have h1:=h.re r hr;unfold glue
  grind
 ·have h1:=h.st r hr.1;unfold glue
  grind
 ·have h1:=h.no r hr;unfold glue
  grind
 ·have h1:=h.nv r;unfold glue;have h2:=h.wi (true,r) (true,p);have h3:=h.wi (true,r) (true,q)
  grind
theorem Rel.move(h:Rel xs L X σ)(hp:L p)(np:¬X p)(hq:X q):Rel (bX xs p q) (fun r=>L r∧r≠p) (fun r=>X r∧r≠q) (glue (false,p) (true,q) σ):=by
 have ip:=h.inn p hp;have iq:=h.inn q (h.sub q hq);have tq:=h.tr hq;have sq:=h.st q hq;obtain⟨l1,l2,e1,e2⟩:=h.peer hp np;have sp:=h.re p hp np;have sr:=h.re _ l1 l2;rw[e1]at sr;have ir:=h.inn _ l1;have npq:p≠q:=fun e=>np (e▸hq)
 unfold bX;refine⟨fun r hr=>(h.inn r hr.1).link,fun r hr=>⟨h.sub r hr.1,fun e=>np (e▸hr.1)⟩,fun r hr hx=> ?_,fun r hr=> ?_,fun r hr=> ?_,fun r hr=> ?_,wh h.wi (by simp)⟩
 ·rw[gu ir iq (h.inn r hr.1)];have h1:=h.re r hr.1;have h2:=h.wi (false,r) (false,p);unfold glue
  grind
 ·have h1:=h.st r hr.1;have h2:=hr.2;unfold glue
  grind
 ·have h1:=h.no r;have h2:=h.wi (false,r) (false,p);have h3:=h.wi (false,r) (true,q);unfold glue
  grind
 ·have h1:=h.nv r;have h2:=h.wi (true,r) (false,p);have h3:=h.wi (true,r) (true,q);unfold glue
  grind
theorem Rel.join(h:Rel xs L X σ)(hp:L p)(np:¬X p)(hq:L q)(nq:¬X q)(n:p≠q):Rel (aY xs p q) (fun r=>L r∧r≠p∧r≠q) X (glue (false,p) (false,q) σ):=by
 have ip:=h.inn p hp;have iq:=h.inn q hq;obtain⟨l1,l2,e1,e2⟩:=h.peer hp np;obtain⟨m1,m2,f1,f2⟩:=h.peer hq nq;have sp:=h.re p hp np;have sq:=h.re q hq nq;have sr:=h.re _ l1 l2;have ss:=h.re _ m1 m2;rw[e1]at sr;rw[f1]at ss;have ir:=h.inn _ l1;have is_:=h.inn _ m1
 have hj:aY xs p q=if ay xs p=q then xs else bE xs (ay xs p) (ay xs q):=by
  unfold aY
  by_cases e:ay xs p=q
  ·rw[if_pos e,e];simp
  ·rw[if_neg e]
   have:((ay xs p).1==q.1&&(ay xs p).2==q.2)=false:=by
    cases hh:((ay xs p).1==q.1&&(ay xs p).2==q.2)with
    |false=>rfl
    |true=>exact absurd (Prod.ext (by simp at hh;exact hh.1) (by simp at hh;exact hh.2)) e
   rw[this];rfl
 refine⟨fun r hr=>(h.inn r hr.1).join,fun r hr=>⟨h.sub r hr,fun e=>np (e▸hr),fun e=>nq (e▸hr)⟩,fun r hr hx=> ?_,fun r hr=> ?_,fun r hr=> ?_,fun r hr=> ?_,wh h.wi (by simpa using n)⟩
 ·rw[hj];have h1:=h.re r hr.1 hx;have h2:=h.wi (false,r) (false,p);have h3:=h.wi (false,r) (false,q);have h4:=gu ir is_ (h.inn r hr.1);unfold glue
  grind
 ·have h1:=h.st r hr;have h2:r≠p:=fun e=>np (e▸hr)
  have h3:r≠q:=fun e=>nq (e▸hr)
  unfold glue
  grind
 ·have h1:=h.no r;have h2:=h.wi (false,r) (false,p);have h3:=h.wi (false,r) (false,q);unfold glue
  grind
 ·have h1:=h.nv r hr;unfold glue
  grind
theorem Rel.cut(h:Rel xs L X σ)(hp:L p)(np:¬X p)(e:ay xs p=q):Rel xs (fun r=>L r∧r≠p∧r≠q) X (glue (false,p) (false,q) σ):=by
 obtain⟨l1,l2,e1,e2⟩:=h.peer hp np;rw[e]at l1 l2 e1 e2;have k:=h.join hp np l1 l2 (Ne.symm e2);have hj:aY xs p q=xs:=by unfold aY;rw[e];simp
 rwa[hj]at k
end
end Go.Tr
namespace Go.Tr
open Go Go.RowKit
def stubs(ls:List Nat):W0:=fun q=>if 0≤q.2.2∧q.2.2<ls.getD q.2.1 0 then some (!q.1,q.2)else none
theorem Ej(ls:List Nat):UO ls.length (stubs ls):=by
 refine⟨fun p q h=> ?_,fun p q h=> ?_⟩
 ·unfold stubs at h;split at h
  ·rename_i hp;have e:(!p.1,p.2)=q:=by simpa using h
   have hl:p.2.1<ls.length:=by
    rcases Nat.lt_or_ge p.2.1 ls.length with k|k
    ·exact k
    ·rw[qC,List.getElem?_eq_none k]at hp;simp only[Option.getD_none]at hp;omega
   subst e;exact⟨hl,hl⟩
  ·cases h
 ·unfold stubs at h ⊢;split at h
  ·rename_i hp;have e:(!p.1,p.2)=q:=by simpa using h
   subst e;rw[if_pos hp];refine⟨by simp,fun e=> ?_⟩;have:=congrArg Prod.fst e;simp at this
  ·cases h
theorem QA(n:Int)(σ:Wi):je n 0 (stubs []) σ=σ:=by
 funext t
 rw[dQ (by unfold fD;omega)]
theorem M0{n:Int}{ls:List Nat}{m:Nat}{σ:Wi}:je (n+ls.length) 1 (stubs [m]) (je n ls.length (stubs ls) σ)=je n (ls++[m]).length (stubs (ls++[m])) σ:=by
 funext t
 have hl:(ls++[m]).length=ls.length+1:=by simp
 by_cases h1:fD (n+ls.length) 1 t
 ·have h2:fD n (ls++[m]).length t:=by unfold fD at*;omega
  rw[kJ h1,kJ h2];have e1:t.2.1=n+ls.length:=by unfold fD at h1;omega
  have e2:(t.2.1-(n+ls.length)).toNat=0:=by omega
  have e3:(t.2.1-n).toNat=ls.length:=by omega
  rw[e2,e3];unfold stubs;simp only[qC,qL (Nat.le_refl _),Nat.sub_self,List.getElem?_cons_zero,Option.getD_some];split
  ·simp only[Option.map_some];unfold GN;simp
  ·rfl
 ·rw[dQ h1]
  by_cases h2:fD n ls.length t
  ·have h3:fD n (ls++[m]).length t:=by unfold fD at*;omega
   rw[kJ h2,kJ h3];have e3:(t.2.1-n).toNat<ls.length:=by unfold fD at h2;omega
   unfold stubs;simp only[qC,qM e3]
  ·rw[dQ h2,dQ (by unfold fD at*;omega)]
theorem Rel.add{xs:List aj}{L X:aC→Prop}{σ:Wi}(h:Rel xs L X σ)(k l v:Int)(d:List Int)(m:Nat):
  Rel (xs++[aX k l v d m]) (fun r=>L r∨(r.1=(xs.length:Nat)∧0≤r.2∧r.2<m)) (fun r=>X r∨(r.1=(xs.length:Nat)∧0≤r.2∧r.2<m)) (je (xs.length:Nat) 1 (stubs [m]) σ)∧p9 (xs.length:Nat) 1 σ:=by
 have hL:∀r,L r→r.1<(xs.length:Nat):=fun r hr=>(h.inn r hr).2.1
 have hF:p9 (xs.length:Nat) 1 σ:=by
  rintro⟨b,p⟩ ht;unfold fD at ht;simp only at ht;cases b with
  |false=>exact h.no p fun e=>by have:=hL p e;omega
  |true=>exact h.nv p fun e=>by have:=hL p (h.sub p e);omega
 have hin:∀(b:Bool) (p:aC),p.1=(xs.length:Nat)→je (xs.length:Nat) 1 (stubs [m]) σ (b,p)=if 0≤p.2∧p.2<(m:Nat)then some (!b,p)else none:=fun b p hp=>by
  rw[kJ (by unfold fD;simp only;omega)];unfold stubs;simp only;rw[show(p.1-(xs.length:Nat)).toNat=0 by omega];simp only[qC,List.getElem?_cons_zero,Option.getD_some];split
  ·simp only[Option.map_some];unfold GN;obtain⟨p1,p2⟩:=p;simp only at hp;subst hp;simp
  ·rfl
 have hout:∀(b:Bool) (p:aC),p.1≠(xs.length:Nat)→je (xs.length:Nat) 1 (stubs [m]) σ (b,p)=σ (b,p):=fun b p hp=>dQ (by unfold fD;simp only;omega)
 refine⟨⟨fun r hr=> ?_,fun r hr=> ?_,fun r hr hx=> ?_,fun r hr=> ?_,fun r hr=> ?_,fun r hr=> ?_,y5 (Ej [m]) h.wi hF⟩,hF⟩
 ·rcases hr with hr|⟨e,h0,h1⟩
  ·exact(h.inn r hr).app
  ·have:=ak.new (xs:=xs) (k:=k) (l:=l) (v:=v) (d:=d) (n:=m) h0 h1;rw[←e]at this;exact this
 ·rcases hr with hr|hr
  ·exact .inl (h.sub r hr)
  ·exact .inr hr
 ·have hr':L r:=by
   rcases hr with hr|hr
   ·exact hr
   ·exact absurd (.inr hr) hx
  have hl:=hL r hr';have i:=h.inn r hr';rw[hout _ _ (by omega),h.re r hr' fun e=>hx (.inl e),jD (by have:=i.1;omega)]
 ·rcases hr with hr|⟨e,h0,h1⟩
  ·rw[hout _ _ (by have:=hL r (h.sub r hr);omega),h.st r hr]
  ·rw[hin _ _ e,if_pos ⟨h0,h1⟩];rfl
 ·by_cases e:r.1=(xs.length:Nat)
  ·rw[hin _ _ e,if_neg fun k=>hr (.inr ⟨e,k.1,k.2⟩)]
  ·rw[hout _ _ e];exact h.no r fun k=>hr (.inl k)
 ·by_cases e:r.1=(xs.length:Nat)
  ·rw[hin _ _ e,if_neg fun k=>hr (.inr ⟨e,k.1,k.2⟩)]
  ·rw[hout _ _ e];exact h.nv r fun k=>hr (.inl k)
inductive SP where
 |x (i:Int)
 |y (i:Int)
 |s (j:Nat) (i:Int)
def SP.v(n x y:Int):SP→VP
 | .x i=>(false,(x,i))
 | .y i=>(false,(y,i))
 | .s j i=>(true,(n+j,i))
def SP.ok(m:Nat):SP→Prop
 | .s j _=>j<m
 |_=>True
abbrev SG:=List (SP×SP)
def SG.g(n x y:Int)(φ:SG):GL:=φ.map fun e=>(e.1.v n x y,e.2.v n x y)
def SG.ok(m:Nat)(φ:SG):Prop:=∀e∈φ,e.1.ok m∧e.2.ok m
theorem SP.ok.le{m m':Nat}(h:m≤m'):∀{p:SP},p.ok m→p.ok m'
 | .x _,_=>trivial
 | .y _,_=>trivial
 | .s _ _,k=>qW k h
theorem SG.ok.le{m m':Nat}{φ:SG}(k:φ.ok m)(h:m≤m'):φ.ok m':=fun e he=>⟨(k e he).1.le h,(k e he).2.le h⟩
theorem SG.ok.snoc{m:Nat}{φ:SG}{a b:SP}(k:φ.ok m)(ha:a.ok m)(hb:b.ok m):SG.ok m (φ++[(a,b)]):=fun e he=>by
 rcases qT.1 he with h|h
 ·exact k e h
 ·rw[qX]at h;rw[h];exact⟨ha,hb⟩
theorem SG.CY(n x y:Int)(φ:SG)(a b:SP):SG.g n x y (φ++[(a,b)])=SG.g n x y φ++[(a.v n x y,b.v n x y)]:=by unfold SG.g;rw[qZ];rfl
theorem SG.out{n:Nat}{x y:Int}{m k:Nat}{φ:SG}(h:φ.ok m)(hx:x<(n:Nat))(hy:y<(n:Nat)):UW ((n:Int)+m) k (SG.g n x y φ):=fun e he=>by
 obtain⟨f,hf,rfl⟩:=List.mem_map.1 he
 have key:∀p:SP,p.ok m→¬fD ((n:Int)+m) k (p.v n x y):=fun p hp=>by
  unfold fD;cases p with
  |x i=>show ¬((n:Int)+m≤x∧_);omega
  |y i=>show ¬((n:Int)+m≤y∧_);omega
  |s j i=>have hj:j<m:=hp;show ¬((n:Int)+m≤(n:Int)+j∧_);omega
 exact⟨key _ (h f hf).1,key _ (h f hf).2⟩
structure tC(σ:Wi)(n:Nat)(x y:Int)(xs:List aj)(ls:List Nat)(φ:SG)(L X:aC→Prop):Prop where
 rel:Rel xs L X (gV (SG.g n x y φ) (je n ls.length (stubs ls) σ))
 len:xs.length=n+ls.length
 ok:φ.ok ls.length
 xl:x<(n:Nat)
 yl:y<(n:Nat)
section
variable {σ:Wi}{n:Nat}{x y:Int}{xs:List aj}{ls:List Nat}{φ:SG}{L X L' X':aC→Prop}
theorem tC.start(h:Rel xs L X σ)(hx:x<(xs.length:Nat))(hy:y<(xs.length:Nat)):tC σ xs.length x y xs [] [] L X:=
 ⟨by show Rel xs L X (je _ 0 (stubs []) σ);rw[QA];exact h,rfl,(fun e he=>by cases he),hx,hy⟩
theorem tC.congr(h:tC σ n x y xs ls φ L X)(hL:∀r,L' r↔L r)(hX:∀r,X' r↔X r):tC σ n x y xs ls φ L' X':=⟨h.rel.congr hL hX,h.len,h.ok,h.xl,h.yl⟩
theorem tC.add(h:tC σ n x y xs ls φ L X)(k l v:Int)(d:List Int)(m:Nat):
  tC σ n x y (xs++[aX k l v d m]) (ls++[m]) φ (fun r=>L r∨(r.1=(n+ls.length:Nat)∧0≤r.2∧r.2<m)) (fun r=>X r∨(r.1=(n+ls.length:Nat)∧0≤r.2∧r.2<m)):=by
 obtain⟨k1,k2⟩:=h.rel.add k l v d m;rw[h.len]at k1;have e:((n+ls.length:Nat):Int)=(n:Int)+(ls.length:Nat):=by omega
 refine⟨?_,by simp[h.len];omega,h.ok.le (by simp),h.xl,h.yl⟩;have hc:=uR (n:=(n:Int)+ls.length) (k:=1) (Ej [m]) (φ:=SG.g n x y φ) (σ:=je n ls.length (stubs ls) σ) (SG.out h.ok h.xl h.yl);rw[←M0,←hc,←e];exact k1
theorem tC.Sv(h:tC σ n x y xs ls φ L X){j j':Nat}{i i':Int}{p q:aC}(ep:p=((n:Int)+j,i))(eq:q=((n:Int)+j',i'))(hj:j<ls.length)(hj':j'<ls.length)(hp:X p)(hq:X q)(ne:p≠q):
  tC σ n x y (bE xs p q) ls (φ++[(.s j i,.s j' i')]) L (fun r=>X r∧r≠p∧r≠q):=by
 have k:=h.rel.link hp hq ne;subst ep;subst eq;refine⟨?_,by rw[iU];exact h.len,h.ok.snoc hj hj',h.xl,h.yl⟩;rw[SG.CY,tO];exact k
theorem tC.SF(h:tC σ n x y xs ls φ L X){j:Nat}{i i':Int}{q:aC}(eq:q=((n:Int)+j,i'))(hj:j<ls.length)(hp:L (x,i))(np:¬X (x,i))(hq:X q):
  tC σ n x y (bX xs (x,i) q) ls (φ++[(.x i,.s j i')]) (fun r=>L r∧r≠(x,i)) (fun r=>X r∧r≠q):=by
 have k:=h.rel.move hp np hq;subst eq;refine⟨?_,by rw[gQ];exact h.len,h.ok.snoc trivial hj,h.xl,h.yl⟩;rw[SG.CY,tO];exact k
theorem tC.FZ(h:tC σ n x y xs ls φ L X){j:Nat}{i i':Int}{q:aC}(eq:q=((n:Int)+j,i'))(hj:j<ls.length)(hp:L (y,i))(np:¬X (y,i))(hq:X q):
  tC σ n x y (bX xs (y,i) q) ls (φ++[(.y i,.s j i')]) (fun r=>L r∧r≠(y,i)) (fun r=>X r∧r≠q):=by
 have k:=h.rel.move hp np hq;subst eq;refine⟨?_,by rw[gQ];exact h.len,h.ok.snoc trivial hj,h.xl,h.yl⟩;rw[SG.CY,tO];exact k
theorem tC.join(h:tC σ n x y xs ls φ L X){i i':Int}(hp:L (x,i))(np:¬X (x,i))(hq:L (y,i'))(nq:¬X (y,i'))(ne:x≠y):
  tC σ n x y (aY xs (x,i) (y,i')) ls (φ++[(.x i,.y i')]) (fun r=>L r∧r≠(x,i)∧r≠(y,i')) X:=by
 have k:=h.rel.join hp np hq nq (fun e=>ne (congrArg Prod.fst e));refine⟨?_,by rw[tT];exact h.len,h.ok.snoc trivial trivial,h.xl,h.yl⟩;rw[SG.CY,tO];exact k
theorem tC.cut(h:tC σ n x y xs ls φ L X)(hp:L (x,0))(np:¬X (x,0))(e:ay xs (x,0)=(y,0)):
  tC σ n x y xs ls (φ++[(.x 0,.y 0)]) (fun r=>L r∧r≠(x,0)∧r≠(y,0)) X:=by
 have k:=h.rel.cut hp np e;refine⟨?_,h.len,h.ok.snoc trivial trivial,h.xl,h.yl⟩;rw[SG.CY,tO];exact k
end
end Go.Tr
namespace Go.Tr
open Go Go.RowKit
abbrev xH:aC→Prop:=fun _=>False
def xV(L:aC→Prop)(n:Nat)(ls:List Nat)(x y:Int):aC→Prop:=fun r=>(L r∧r.1≠x∧r.1≠y)∨((n:Int)≤r.1∧r.1<((n+ls.length:Nat):Int)∧0≤r.2∧r.2<((ls.getD (r.1-n).toNat 0:Nat):Int))
theorem ZaA(c:Int)(r:aC):xH r↔(xH r∨(r.1=c∧0≤r.2∧r.2<((1:Nat):Int)))∧r≠(c,0):=by
 constructor
 ·exact False.elim
 ·rintro⟨e|⟨e1,e2,e3⟩,e4⟩
  ·exact e
  ·exact e4 (Prod.ext e1 (by simp only;omega))
def OC:SG:=[(.x 0,.y 0),(.x 1,.y 1),(.x 2,.y 2)]
def Ky(k:Nat):SG:=[(.x 0,.y 0)]++(List.range k).map fun i:Nat=>(.y ((i:Int)+1),.s i 0)
theorem Qn(k:Nat):Ky (k+1)=Ky k++[(.y ((k:Int)+1),.s k 0)]:=by unfold Ky;rw[List.range_succ,qZ,qF];rfl
section
variable {σ:Wi}{n:Nat}{x y:Int}{xs:List aj}{L:aC→Prop}
structure tF(L:aC→Prop)(xs:List aj)(n:Nat)(x y:Int)(kx ky:Nat):Prop where
 ne:x≠y
 x0:0≤x∧x<(n:Nat)
 y0:0≤y∧y<(n:Nat)
 len:xs.length=n
 px:∀i:Int,L (x,i)↔0≤i∧i<(kx:Nat)
 py:∀i:Int,L (y,i)↔0≤i∧i<(ky:Nat)
 kx0:0<kx
 lt:∀r,L r→r.1<(n:Nat)
 w:ay xs (x,0)=(y,0)
theorem AJ(h:Rel xs L xH σ){kx ky:Nat}(k:tF L xs n x y kx ky):tC σ n x y xs [] [(.x 0,.y 0)] (fun r=>L r∧r≠(x,0)∧r≠(y,0)) xH:=by
 have e:=k.len;subst e;exact(tC.start h k.x0.2 k.y0.2).cut ((k.px 0).2 ⟨Int.le_refl 0,by have:=k.kx0;omega⟩) id k.w
theorem Zal(h:Rel xs L xH σ)(k:tF L xs n x y 3 3):tC σ n x y (aY (aY xs (x,1) (y,1)) (x,2) (y,2)) [] OC (xV L n [] x y) xH:=by
 have h0:=AJ h k;have ne:=k.ne;have x1:L (x,1):=(k.px 1).2 (by omega);have x2:L (x,2):=(k.px 2).2 (by omega);have y1:L (y,1):=(k.py 1).2 (by omega);have y2:L (y,2):=(k.py 2).2 (by omega);have h1:=h0.join (i:=1) (i':=1) ⟨x1,by simp,by simp⟩ id ⟨y1,by simp,by simp⟩ id ne;have h2:=h1.join (i:=2) (i':=2) ⟨⟨x2,by simp,by simp⟩,by simp,by simp⟩ id ⟨⟨y2,by simp,by simp⟩,by simp,by simp⟩ id ne;refine h2.congr (fun r=> ?_) fun _=>Iff.rfl
 have qx:=k.px r.2;have qy:=k.py r.2;obtain⟨a,b⟩:=r;unfold xV;simp only[qR,Nat.add_zero,ne_eq,Prod.mk.injEq]at*;constructor
 ·rintro(⟨l,e1,e2⟩|e)
  ·grind
  ·omega
 ·rintro⟨⟨⟨l,e1,e2⟩,e3,e4⟩,e5,e6⟩;refine .inl ⟨l,fun e=> ?_,fun e=> ?_⟩
  ·subst e;have:=qx.1 l;omega
  ·subst e;have:=qy.1 l;omega
theorem rs4(h:Rel xs L xH σ){ky:Nat}(k:tF L xs n x y 1 ky):∀m:Nat,m+1≤ky→tC σ n x y (r9 y xs m) (List.replicate m 1) (Ky m) (fun r=>(L r∧r≠(x,0)∧¬(r.1=y∧r.2≤(m:Nat)))∨((n:Int)≤r.1∧r.1<((n+m:Nat):Int)∧r.2=0)) xH
 |0,hm=>(AJ h k).congr (fun r=>by
   have qy:=k.py r.2;obtain⟨a,b⟩:=r;simp only[Nat.add_zero,ne_eq,Prod.mk.injEq]at*;constructor
   ·rintro(⟨l,e1,e2⟩|e)
    ·exact⟨l,e1,fun e=>e2 ⟨e.1,by omega⟩⟩
    ·omega
   ·rintro⟨l,e1,e2⟩;refine .inl ⟨l,e1,fun e=>e2 ⟨e.1,?_⟩⟩;obtain⟨e3,e4⟩:=e;subst e3;have:=qy.1 l;omega) fun _=>Iff.rfl
 |m+1,hm=>by
  have ih:=rs4 h k m (by omega);have hl:(List.replicate m 1).length=m:=List.length_replicate ..;have h1:=ih.add 5 0 0 [] 1;have hlen:=k.len;have hy:=(k.py ((m:Int)+1)).2 (by omega);have ne:=k.ne;have hy0:=k.y0;rw[hl]at h1;have h2:=h1.FZ (j:=m) (i:=(m:Int)+1) (i':=0) (q:=(((n+m:Nat):Int),0)) (Prod.ext (by show((n+m:Nat):Int)=(n:Int)+m;omega) rfl) (by simp) (.inl (.inl ⟨hy,(by simp only[ne_eq,Prod.mk.injEq];omega),by simp only;omega⟩)) (by rintro(e|⟨e, -⟩);exact e;simp only at e;omega) (.inr ⟨rfl,Int.le_refl 0,by simp⟩)
  unfold r9;rw[hlen,Qn,List.replicate_succ',show((m+1:Nat):Int)=(m:Int)+1 by omega];refine h2.congr (fun r=> ?_) fun r=> ?_
  ·have qy:=k.py r.2;have ql:=k.lt r;obtain⟨a,b⟩:=r;simp only[ne_eq,Prod.mk.injEq]at*;constructor
   ·rintro(⟨l,e1,e2⟩|⟨e1,e2,e3⟩)
    ·exact⟨.inl (.inl ⟨l,e1,by omega⟩),by omega⟩
    ·refine⟨?_,by omega⟩
     by_cases e:a=((n+m:Nat):Int)
     ·exact .inr ⟨e,by omega,by omega⟩
     ·exact .inl (.inr ⟨e1,by omega,e3⟩)
   ·rintro⟨(⟨l,e1,e2⟩|⟨e1,e2,e3⟩)|⟨e1,e2,e3⟩,e4⟩
    ·exact .inl ⟨l,e1,by omega⟩
    ·exact .inr ⟨e1,by omega,e3⟩
    ·exact .inr ⟨by omega,by omega,by omega⟩
  ·exact ZaA _ r
end
end Go.Tr
namespace Go.Tr
open Go Go.RowKit
def DC(k:Nat):SG:=[(.x 0,.y 0)]++(List.range k).flatMap fun i:Nat=>[(.s (2+i) 1,.s 0 ((i+1:Nat):Int)),(.s (2+i) 2,.s 1 ((i+1:Nat):Int))]
theorem Mx(k:Nat):DC (k+1)=DC k++[(.s (2+k) 1,.s 0 ((k+1:Nat):Int))]++[(.s (2+k) 2,.s 1 ((k+1:Nat):Int))]:=by unfold DC;rw[List.range_succ,List.flatMap_append];simp
def E8(k m:Nat):SG:=DC k++[(.x 1,.s 0 0)]++[(.x 2,.s 1 0)]++(List.range m).map fun i:Nat=>(.y ((i:Int)+1),.s (2+i) 0)
theorem Qm(k m:Nat):E8 k (m+1)=E8 k m++[(.y ((m:Int)+1),.s (2+m) 0)]:=by unfold E8;rw[List.range_succ,qZ];simp
section
variable {σ:Wi}{n:Nat}{x y:Int}{xs:List aj}{L:aC→Prop}
def L3(L:aC→Prop)(n ky:Nat)(x y:Int)(k:Nat):aC→Prop:=fun r=>(L r∧r≠(x,0)∧r≠(y,0))∨((r.1=(n:Int)∨r.1=(n:Int)+1)∧0≤r.2∧r.2<(ky:Int))∨((n:Int)+2≤r.1∧r.1<(n:Int)+2+k∧0≤r.2∧r.2<3)
def X3(n ky:Nat)(k:Nat):aC→Prop:=fun r=>((r.1=(n:Int)∨r.1=(n:Int)+1)∧0≤r.2∧r.2<(ky:Int)∧(r.2≤0∨(k:Int)<r.2))∨((n:Int)+2≤r.1∧r.1<(n:Int)+2+k∧r.2=0)
theorem OP(h:Rel xs L xH σ){ky:Nat}(k:tF L xs n x y 3 ky)(hky:(ah xs y).2.2.2.2.length=ky)(hy1:1≤ky):∀m:Nat,m+1≤ky→
  tC σ n x y (bV x ((n:Nat):Int) ((n+1:Nat):Int) (dup2 xs y) m) ([ky,ky]++List.replicate m 3) (DC m) (L3 L n ky x y m) (X3 n ky m)
 |0,hm=>by
  have h1:=(AJ h k).add (ah xs y).1 (ah xs y).2.1 (ah xs y).2.2.1 (ah xs y).2.2.2.1 ky;have h2:=h1.add (ah xs y).1 (ah xs y).2.1 (ah xs y).2.2.1 (ah xs y).2.2.2.1 ky
  have e:bV x ((n:Nat):Int) ((n+1:Nat):Int) (dup2 xs y) 0=(xs++[aX (ah xs y).1 (ah xs y).2.1 (ah xs y).2.2.1 (ah xs y).2.2.2.1 ky])++[aX (ah xs y).1 (ah xs y).2.1 (ah xs y).2.2.1 (ah xs y).2.2.2.1 ky]:=by
   show dup2 xs y=_;unfold dup2 lg;rw[hky]
  rw[e];refine h2.congr (fun r=> ?_) fun r=> ?_
  ·unfold L3;obtain⟨a,b⟩:=r;simp only[ne_eq,Prod.mk.injEq,List.nil_append,qR,qI]at*
   grind
  ·unfold X3;obtain⟨a,b⟩:=r;simp only[ne_eq,Prod.mk.injEq,List.nil_append,qR,qI]at*
   grind
 |m+1,hm=>by
  have ih:=OP h k hky hy1 m (by omega);have hl:([ky,ky]++List.replicate m 3).length=2+m:=by simp;omega
  have hlen:(bV x ((n:Nat):Int) ((n+1:Nat):Int) (dup2 xs y) m).length=n+(2+m):=by rw[ih.len,hl]
  have h1:=ih.add 4 (ah (bV x ((n:Nat):Int) ((n+1:Nat):Int) (dup2 xs y) m) x).2.1 0 [] 3;rw[hl]at h1;have hl1:([ky,ky]++List.replicate m 3++[3]).length=3+m:=by simp;omega
  have h2:=h1.Sv (j:=2+m) (j':=0) (i:=1) (i':=((m+1:Nat):Int)) (p:=(((n+(2+m):Nat):Int),1)) (q:=(((n:Nat):Int),((m+1:Nat):Int))) (Prod.ext (by show((n+(2+m):Nat):Int)=(n:Int)+((2+m:Nat):Int);omega) rfl) (Prod.ext (by show((n:Nat):Int)=(n:Int)+((0:Nat):Int);omega) rfl) (by rw[hl1];omega) (by rw[hl1];omega) (.inr ⟨rfl,by simp,by simp⟩) (.inl (.inl ⟨.inl rfl,by simp only;omega,by simp only;omega,by simp only;omega⟩)) (by simp only[ne_eq,Prod.mk.injEq];omega);have h3:=h2.Sv (j:=2+m) (j':=1) (i:=2) (i':=((m+1:Nat):Int)) (p:=(((n+(2+m):Nat):Int),2)) (q:=(((n+1:Nat):Int),((m+1:Nat):Int))) (Prod.ext (by show((n+(2+m):Nat):Int)=(n:Int)+((2+m:Nat):Int);omega) rfl) (Prod.ext (by show((n+1:Nat):Int)=(n:Int)+((1:Nat):Int);omega) rfl) (by rw[hl1];omega) (by rw[hl1];omega) ⟨.inr ⟨rfl,by simp,by simp⟩,by simp,by simp only[ne_eq,Prod.mk.injEq];omega⟩ ⟨.inl (.inl ⟨.inr (by simp only;omega),by simp only;omega,by simp only;omega,by simp only;omega⟩),by simp only[ne_eq,Prod.mk.injEq];omega,by simp only[ne_eq,Prod.mk.injEq];omega⟩ (by simp only[ne_eq,Prod.mk.injEq];omega)
  unfold bV mO;rw[hlen,Mx,List.replicate_succ',←qF];refine h3.congr (fun r=> ?_) fun r=> ?_
  ·unfold L3;obtain⟨a,b⟩:=r;simp only[ne_eq,Prod.mk.injEq]at*
   grind
  ·unfold X3;obtain⟨a,b⟩:=r;simp only[ne_eq,Prod.mk.injEq]at*
   grind
theorem rs3(h:Rel xs L xH σ){ky:Nat}(k:tF L xs n x y 3 ky)(hky:(ah xs y).2.2.2.2.length=ky)(hy1:1≤ky):∀m:Nat,m+1≤ky→
  tC σ n x y (cB y (n+2) (mH xs x y) m) ([ky,ky]++List.replicate (ky-1) 3) (E8 (ky-1) m) (fun r=>L3 L n ky x y (ky-1) r∧r≠(x,1)∧r≠(x,2)∧¬(r.1=y∧1≤r.2∧r.2≤(m:Nat))) (fun r=>(n:Int)+2+m≤r.1∧r.1<(n:Int)+2+((ky-1:Nat):Int)∧r.2=0)
 |0,hm=>by
  have h0:=OP h k hky hy1 (ky-1) (by omega);have ne:=k.ne;have x1:L (x,1):=(k.px 1).2 (by omega);have x2:L (x,2):=(k.px 2).2 (by omega);have kx:=k.x0;have hlt:∀{i:Int},¬X3 n ky (ky-1) (x,i):=fun {i} e=>by unfold X3 at e;simp only at e;omega
  have hl:([ky,ky]++List.replicate (ky-1) 3).length=2+(ky-1):=by simp;omega
  have h1:=h0.SF (j:=0) (i:=1) (i':=0) (q:=(((n:Nat):Int),0)) (Prod.ext (by show((n:Nat):Int)=(n:Int)+((0:Nat):Int);omega) rfl) (by rw[hl];omega) (.inl ⟨x1,by simp,by simp⟩) hlt (.inl ⟨.inl rfl,by simp only;omega,by simp only;omega,.inl (by simp)⟩);have h2:=h1.SF (j:=1) (i:=2) (i':=0) (q:=(((n+1:Nat):Int),0)) (Prod.ext (by show((n+1:Nat):Int)=(n:Int)+((1:Nat):Int);omega) rfl) (by rw[hl];omega) ⟨.inl ⟨x2,by simp,by simp⟩,by simp⟩ (fun e=>hlt e.1) ⟨.inl ⟨.inr (by simp only;omega),by simp only;omega,by simp only;omega,.inl (by simp)⟩,by simp only[ne_eq,Prod.mk.injEq];omega⟩
  have e:cB y (n+2) (mH xs x y) 0=bX (bX (bV x ((n:Nat):Int) ((n+1:Nat):Int) (dup2 xs y) (ky-1)) (x,1) ((n:Nat),0)) (x,2) ((n+1:Nat),0):=by
   show mH xs x y=_;unfold mH dup3;rw[hky,k.len]
  rw[e];have e2:E8 (ky-1) 0=DC (ky-1)++[(.x 1,.s 0 0)]++[(.x 2,.s 1 0)]:=by unfold E8;simp
  rw[e2];have ql:=k.lt;have y0:=k.y0;refine h2.congr (fun r=> ?_) fun r=> ?_
  ·obtain⟨a,b⟩:=r;simp only[ne_eq,Prod.mk.injEq]at*
   grind
  ·unfold X3;obtain⟨a,b⟩:=r;simp only[ne_eq,Prod.mk.injEq]at*
   grind
 |m+1,hm=>by
  have ih:=rs3 h k hky hy1 m (by omega);have hl:([ky,ky]++List.replicate (ky-1) 3).length=2+(ky-1):=by simp;omega
  have ym:L (y,(m:Int)+1):=(k.py _).2 (by omega);have ne:=k.ne;have y0:=k.y0;have h1:=ih.FZ (j:=2+m) (i:=((m:Nat):Int)+1) (i':=0) (q:=(((n+2+m:Nat):Int),0)) (Prod.ext (by show((n+2+m:Nat):Int)=(n:Int)+((2+m:Nat):Int);omega) rfl) (by rw[hl];omega) ⟨.inl ⟨ym,by simp only[ne_eq,Prod.mk.injEq];omega,by simp only[ne_eq,Prod.mk.injEq];omega⟩,by simp only[ne_eq,Prod.mk.injEq];omega,by simp only[ne_eq,Prod.mk.injEq];omega,by simp only;omega⟩ (fun e=>by simp only at e;omega) ⟨by simp only;omega,by simp only;omega,rfl⟩
  unfold cB;rw[Qm];refine h1.congr (fun r=> ?_) fun r=> ?_
  ·obtain⟨a,b⟩:=r;simp only[ne_eq,Prod.mk.injEq]at*
   grind
  ·obtain⟨a,b⟩:=r;simp only[ne_eq,Prod.mk.injEq]at*
   grind
end
end Go.Tr
namespace Go.Tr
open Go Go.RowKit
section
variable {σ:Wi}{n:Nat}{x y:Int}{xs:List aj}{L:aC→Prop}
def DF:SG:=[(.x 0,.y 0)]++[(.y 1,.s 0 0)]++[(.y 2,.s 0 1)]
def wJ:SG:=[(.x 0,.y 0)]++[(.y 1,.s 0 0)]
theorem Uh(h:Rel xs L xH σ)(k:tF L xs n x y 1 2)(a b c:Int)(d:List Int):tC σ n x y (bX (xs++[aX a b c d 1]) (y,1) ((n:Nat),0)) [1] wJ (xV L n [1] x y) xH:=by
 have h1:=(AJ h k).add a b c d 1;have ne:=k.ne;have y1:L (y,1):=(k.py 1).2 (by omega);have y0:=k.y0;have h2:=h1.FZ (j:=0) (i:=1) (i':=0) (q:=(((n:Nat):Int),0)) (Prod.ext (by show((n:Nat):Int)=(n:Int)+((0:Nat):Int);omega) rfl) (by simp) (.inl ⟨y1,by simp,by simp⟩) (by rintro(e|⟨e, -⟩);exact e;simp only[qR,Nat.add_zero]at e;omega) (.inr ⟨by simp,by simp,by simp⟩);refine h2.congr (fun r=> ?_) fun r=> ?_
 ·have qx:=k.px r.2;have qy:=k.py r.2;have ql:=k.lt r;unfold xV;obtain⟨a,b⟩:=r;have hg:∀z:Int,(n:Int)≤z→z<(n:Int)+1→([1]:List Nat).getD (z-n).toNat 0=1:=fun z h0 h1=>by rw[show(z-n).toNat=0 by omega];rfl
  have:=hg a;simp only[ne_eq,Prod.mk.injEq,qR,qI]at*
  grind
 ·obtain⟨a,b⟩:=r;simp only[ne_eq,Prod.mk.injEq,qR]at*
  grind
theorem YQ(h:Rel xs L xH σ)(k:tF L xs n x y 1 3)(a b c:Int)(d:List Int):tC σ n x y (bX (bX (xs++[aX a b c d 2]) (y,1) ((n:Nat),0)) (y,2) ((n:Nat),1)) [2] DF (xV L n [2] x y) xH:=by
 have h1:=(AJ h k).add a b c d 2;have ne:=k.ne;have y1:L (y,1):=(k.py 1).2 (by omega);have y2:L (y,2):=(k.py 2).2 (by omega);have y0:=k.y0;have nX:∀{i:Int},¬(xH (y,i)∨(((y,i):aC).1=((n+([]:List Nat).length:Nat):Int)∧0≤((y,i):aC).2∧((y,i):aC).2<((2:Nat):Int))):=fun {i}=>by rintro(e|⟨e, -⟩);exact e;simp only[qR,Nat.add_zero]at e;omega
 have h2:=h1.FZ (j:=0) (i:=1) (i':=0) (q:=(((n:Nat):Int),0)) (Prod.ext (by show((n:Nat):Int)=(n:Int)+((0:Nat):Int);omega) rfl) (by simp) (.inl ⟨y1,by simp,by simp⟩) nX (.inr ⟨by simp,by simp,by simp⟩);have h3:=h2.FZ (j:=0) (i:=2) (i':=1) (q:=(((n:Nat):Int),1)) (Prod.ext (by show((n:Nat):Int)=(n:Int)+((0:Nat):Int);omega) rfl) (by simp) ⟨.inl ⟨y2,by simp,by simp⟩,by simp⟩ (fun e=>nX e.1) ⟨.inr ⟨by simp,by simp,by simp⟩,by simp⟩;refine h3.congr (fun r=> ?_) fun r=> ?_
 ·have qx:=k.px r.2;have qy:=k.py r.2;have ql:=k.lt r;unfold xV;obtain⟨a,b⟩:=r;have hg:∀z:Int,(n:Int)≤z→z<(n:Int)+1→([2]:List Nat).getD (z-n).toNat 0=2:=fun z h0 h1=>by rw[show(z-n).toNat=0 by omega];rfl
  have:=hg a;simp only[ne_eq,Prod.mk.injEq,qR,qI]at*
  grind
 ·obtain⟨a,b⟩:=r;simp only[ne_eq,Prod.mk.injEq,qR]at*
  grind
def spR:Nat→SP
 |0=>.s 0 0
 |k+1=>.s (1+k) 2
def DI(k:Nat):SG:=[(.x 0,.y 0)]++(List.range k).map fun i:Nat=>(.s (1+i) 0,spR i)
theorem MB(k:Nat):DI (k+1)=DI k++[(.s (1+k) 0,spR k)]:=by unfold DI;rw[List.range_succ,qZ,qF];rfl
def Bo(k m:Nat):SG:=DI k++(List.range m).map fun i:Nat=>(.x ((i:Int)+1),.s (1+i) 1)
theorem MC(k m:Nat):Bo k (m+1)=Bo k m++[(.x ((m:Int)+1),.s (1+m) 1)]:=by unfold Bo;rw[List.range_succ,qZ,qF];rfl
def Kz(k:Nat):SG:=Bo k k++[(.y 1,spR k)]
def jR:Nat→Nat
 |0=>0
 |k+1=>1+k
def iR:Nat→Int
 |0=>0
 |_+1=>2
theorem IJ(k:Nat):spR k=.s (jR k) (iR k):=by cases k<;>rfl
theorem xY(n k:Nat):iN (n+1) k=(((n:Nat):Int)+(jR k:Nat),iR k):=by
 cases k with
 |zero=>show((((n+1)-1:Nat):Int),(0:Int))=_;simp[jR,iR]
 |succ k=>show(((n+1+k:Nat):Int),(2:Int))=_;simp only[jR,iR,Prod.mk.injEq,and_true];omega
theorem Sn(k:Nat):jR k≤k:=by cases k<;>simp[jR];omega
theorem R9(k:Nat):(k=0∧jR k=0∧iR k=0)∨(0<k∧jR k=k∧iR k=2):=by
 cases k with
 |zero=>exact .inl ⟨rfl,rfl,rfl⟩
 |succ k=>exact .inr ⟨by omega,by simp only[jR];omega,rfl⟩
def L6(L:aC→Prop)(n:Nat)(x y:Int)(k:Nat):aC→Prop:=fun r=>(L r∧r≠(x,0)∧r≠(y,0))∨(r.1=(n:Int)∧r.2=0)∨((n:Int)+1≤r.1∧r.1<(n:Int)+1+k∧0≤r.2∧r.2<3)
theorem Zam(h:Rel xs L xH σ){kx:Nat}(k:tF L xs n x y kx 2)(a b c:Int)(d:List Int)(lv:Int):∀m:Nat,m+1≤kx→
  tC σ n x y (oH lv (n+1) (xs++[aX a b c d 1]) m) ([1]++List.replicate m 3) (DI m) (L6 L n x y m) (fun r=>r=((n:Int)+(jR m:Nat),iR m)∨((n:Int)+1≤r.1∧r.1<(n:Int)+1+m∧r.2=1))
 |0,hm=>by
  have h1:=(AJ h k).add a b c d 1;refine h1.congr (fun r=> ?_) fun r=> ?_
  ·unfold L6;obtain⟨a,b⟩:=r;simp only[ne_eq,Prod.mk.injEq,qR]at*
   grind
  ·obtain⟨a,b⟩:=r;simp only[ne_eq,Prod.mk.injEq,qR,jR,iR]at*
   grind
 |m+1,hm=>by
  have ih:=Zam h k a b c d lv m (by omega);have hl:([1]++List.replicate m 3).length=1+m:=by simp;omega
  have hl1:([1]++List.replicate m 3++[3]).length=2+m:=by simp;omega
  have h1:=ih.add 3 lv 0 [] 3;rw[hl]at h1;have jm:=Sn m;have im:=R9 m;have h2:=h1.Sv (j:=1+m) (j':=jR m) (i:=0) (i':=iR m) (p:=(((n+1+m:Nat):Int),0)) (q:=iN (n+1) m) (Prod.ext (by show((n+1+m:Nat):Int)=(n:Int)+((1+m:Nat):Int);omega) rfl) (xY n m) (by rw[hl1];omega) (by rw[hl1];omega) (.inr ⟨by simp only;omega,by simp,by simp⟩) (.inl (.inl (xY n m))) (by rw[xY];simp only[ne_eq,Prod.mk.injEq];omega);unfold oH;rw[MB,IJ,List.replicate_succ',←qF];refine h2.congr (fun r=> ?_) fun r=> ?_
  ·unfold L6;obtain⟨a,b⟩:=r;simp only[ne_eq,Prod.mk.injEq]at*
   grind
  ·rw[xY];obtain⟨a,b⟩:=r;simp only[ne_eq,Prod.mk.injEq,jR,iR]at*
   grind
theorem Zan(h:Rel xs L xH σ){kx:Nat}(k:tF L xs n x y kx 2)(a b c:Int)(d:List Int)(lv:Int):∀m:Nat,m+1≤kx→
  tC σ n x y (A9 x (n+1) (oH lv (n+1) (xs++[aX a b c d 1]) (kx-1)) m) ([1]++List.replicate (kx-1) 3) (Bo (kx-1) m) (fun r=>L6 L n x y (kx-1) r∧¬(r.1=x∧1≤r.2∧r.2≤(m:Int))) (fun r=>r=((n:Int)+(jR (kx-1):Nat),iR (kx-1))∨((n:Int)+1+m≤r.1∧r.1<(n:Int)+1+((kx-1:Nat):Int)∧r.2=1))
 |0,hm=>by
  have e:Bo (kx-1) 0=DI (kx-1):=by unfold Bo;simp
  rw[e];refine(Zam h k a b c d lv (kx-1) (by omega)).congr (fun r=> ?_) fun r=> ?_
  ·obtain⟨a,b⟩:=r;simp only at*
   grind
  ·obtain⟨a,b⟩:=r;simp only[Prod.mk.injEq]at*
   grind
 |m+1,hm=>by
  have ih:=Zan h k a b c d lv m (by omega);have hl:([1]++List.replicate (kx-1) 3).length=1+(kx-1):=by simp;omega
  have xm:L (x,(m:Int)+1):=(k.px _).2 (by omega);have ne:=k.ne;have x0:=k.x0;have im:=R9 (kx-1);have h1:=ih.SF (j:=1+m) (i:=((m:Nat):Int)+1) (i':=1) (q:=(((n+1+m:Nat):Int),1)) (Prod.ext (by show((n+1+m:Nat):Int)=(n:Int)+((1+m:Nat):Int);omega) rfl) (by rw[hl];omega) ⟨.inl ⟨xm,by simp only[ne_eq,Prod.mk.injEq];omega,by simp only[ne_eq,Prod.mk.injEq];omega⟩,by simp only;omega⟩ (fun e=>by simp only[Prod.mk.injEq]at e;omega) (.inr ⟨by simp only;omega,by simp only;omega,rfl⟩);unfold A9;rw[MC]
  refine h1.congr (fun r=> ?_) fun r=> ?_
  ·obtain⟨a,b⟩:=r;simp only[ne_eq,Prod.mk.injEq]at*
   grind
  ·obtain⟨a,b⟩:=r;simp only[ne_eq,Prod.mk.injEq]at*
   grind
theorem rs6(h:Rel xs L xH σ){kx:Nat}(k:tF L xs n x y kx 2)(a b c:Int)(d:List Int)(lv:Int):
  tC σ n x y (bX (A9 x (n+1) (oH lv (n+1) (xs++[aX a b c d 1]) (kx-1)) (kx-1)) (y,1) (iN (n+1) (kx-1))) ([1]++List.replicate (kx-1) 3) (Kz (kx-1)) (xV L n ([1]++List.replicate (kx-1) 3) x y) xH:=by
 have kx0:=k.kx0;have h0:=Zan h k a b c d lv (kx-1) (by omega);have hl:([1]++List.replicate (kx-1) 3).length=1+(kx-1):=by simp;omega
 have jm:=Sn (kx-1);have y1:L (y,1):=(k.py 1).2 (by omega);have ne:=k.ne;have y0:=k.y0;have im:=R9 (kx-1);have h1:=h0.FZ (j:=jR (kx-1)) (i:=1) (i':=iR (kx-1)) (q:=iN (n+1) (kx-1)) (xY n _) (by rw[hl];omega) ⟨.inl ⟨y1,by simp,by simp⟩,by simp only;omega⟩ (fun e=>by simp only[Prod.mk.injEq]at e;omega) (.inl (xY n _));unfold Kz;rw[IJ];refine h1.congr (fun r=> ?_) fun r=> ?_
 ·have qx:=k.px r.2;have qy:=k.py r.2;have ql:=k.lt r;unfold xV L6;obtain⟨a,b⟩:=r;have hg0:([1]++List.replicate (kx-1) 3:List Nat).getD 0 0=1:=rfl
  have hg1:∀i:Nat,i<kx-1→([1]++List.replicate (kx-1) 3:List Nat).getD (i+1) 0=3:=fun i hi=>by
   rw[qC];simp[List.getElem?_replicate,hi]
  have hga:a=(n:Int)→([1]++List.replicate (kx-1) 3:List Nat).getD (a-n).toNat 0=1:=fun e=>by rw[show(a-n).toNat=0 by omega];exact hg0
  have hgb:(n:Int)+1≤a→a<(n:Int)+1+((kx-1:Nat):Int)→([1]++List.replicate (kx-1) 3:List Nat).getD (a-n).toNat 0=3:=fun e0 e1=>by rw[show(a-n).toNat=(a-n).toNat-1+1 by omega];exact hg1 _ (by omega)
  rw[hl];simp only[ne_eq,Prod.mk.injEq]at*;generalize ([1]++List.replicate (kx-1) 3:List Nat).getD (a-n).toNat 0=g at*
  grind
 ·rw[xY];obtain⟨a,b⟩:=r;simp only[ne_eq,Prod.mk.injEq]at*
  grind
end
end Go.Tr
namespace Go.Tr
open Go Go.RowKit
instance (xs:List aj)(p:aC):Decidable (ak xs p):=by unfold ak;exact inferInstance
def uE(T:List aj):W0:=fun q=>if ak T ((q.2.1:Int)+1,q.2.2)then(if(ay T ((q.2.1:Int)+1,q.2.2)).1=0 then some (!q.1,q.2)else if q.1=true then none else some (false,((ay T ((q.2.1:Int)+1,q.2.2)).1-1).toNat,(ay T ((q.2.1:Int)+1,q.2.2)).2))else none
structure EH(T:List aj):Prop where
 wi:gK (fun p=>ak T p) T
 p0:ak T (0,0)
 p1:∀p,ak T p→p.1=0→p=(0,0)
section
variable {T:List aj}
theorem EH.pos(h:EH T){p:aC}(hp:ak T p):0≤(ay T p).1∧(ay T p).1<(T.length:Nat):=by
 obtain⟨_,h2,_,_⟩:=h.wi p hp;exact⟨h2.1,h2.2.1⟩
theorem EH.top(h:EH T){p:aC}(hp:ak T p)(h0:(ay T p).1=0):p=ay T (0,0):=by
 obtain⟨_,h2,h3,_⟩:=h.wi p hp;rw[←h.p1 _ h2 h0];exact h3.symm
theorem EH.Ux(h:EH T):ak T (ay T (0,0))∧1≤(ay T (0,0)).1∧ay T (ay T (0,0))=(0,0):=by
 obtain⟨_,h2,h3,h4⟩:=h.wi _ h.p0;refine⟨h2,?_,h3⟩;have:=h.pos h.p0
 by_cases e:(ay T (0,0)).1=0
 ·exact absurd (h.p1 _ h2 e) h4
 ·omega
theorem KW(h:EH T):UO (T.length-1) (uE T):=by
 refine⟨fun p q hq=> ?_,fun p q hq=> ?_⟩
 ·unfold uE at hq;split at hq
  ·rename_i hp;have h1:=hp.2.1;have h2:=h.pos hp;simp only at h1;split at hq
   ·have e:(!p.1,p.2)=q:=by simpa using hq
    subst e;exact⟨by omega,by simp only;omega⟩
   ·split at hq
    ·cases hq
    ·have e:((false,((ay T ((p.2.1:Int)+1,p.2.2)).1-1).toNat,(ay T ((p.2.1:Int)+1,p.2.2)).2):Bool×Nat×Int)=q:=by simpa using hq
     subst e;exact⟨by omega,by simp only;omega⟩
  ·cases hq
 ·obtain⟨b,j,i⟩:=p;unfold uE at hq ⊢;simp only at hq ⊢;split at hq
  ·rename_i hp;split at hq
   ·rename_i h0;have e:((!b,j,i):Bool×Nat×Int)=q:=by simpa using hq
    subst e;simp only[hp,h0,if_true];refine⟨by simp,by simp⟩
   ·rename_i h0;split at hq
    ·cases hq
    ·rename_i hb;have hb':b=false:=by simpa using hb
     subst hb';have hpos:=h.pos hp;obtain⟨_,h2,h3,h4⟩:=h.wi _ hp;have e:((false,((ay T ((j:Int)+1,i)).1-1).toNat,(ay T ((j:Int)+1,i)).2):Bool×Nat×Int)=q:=by simpa using hq
     subst e;have e1:(((((ay T ((j:Int)+1,i)).1-1).toNat:Nat):Int)+1,(ay T ((j:Int)+1,i)).2)=ay T ((j:Int)+1,i):=Prod.ext (by simp only;omega) rfl;simp only[e1,h3];rw[if_pos h2,if_neg (by omega),if_neg (by simp)];refine⟨by simp,fun e=>h4 ?_⟩;simp only[Prod.mk.injEq,true_and]at e;exact Prod.ext (by simp only;omega) e.2
  ·cases hq
variable {xs:List aj}{L:aC→Prop}{σ:Wi}{n:Nat}{x y:Int}
theorem Rel.Uu(h:Rel xs L xH σ)(ht:EH T)(hn:xs.length=n):
  Rel (xs++(T.drop 1).map (bQ ((n:Int)-1))) (fun r=>L r∨((n:Int)≤r.1∧ak T (r.1-((n:Int)-1),r.2))) (fun r=>r=((ay T (0,0)).1+((n:Int)-1),(ay T (0,0)).2)) (je n (T.length-1) (uE T) σ)∧p9 n (T.length-1) σ:=by
 subst hn;have hL:∀r,L r→r.1<(xs.length:Nat):=fun r hr=>(h.inn r hr).2.1
 obtain⟨t1,t2,t3⟩:=ht.Ux
 have hF:p9 (xs.length:Nat) (T.length-1) σ:=by
  rintro⟨b,p⟩ hp;unfold fD at hp;simp only at hp;cases b with
  |false=>exact h.no p fun e=>by have:=hL p e;omega
  |true=>exact h.nv p id
 have hin:∀(b:Bool) (p:aC),(xs.length:Int)≤p.1→ak T (p.1-((xs.length:Int)-1),p.2)→je (xs.length:Nat) (T.length-1) (uE T) σ (b,p)=if(ay T (p.1-((xs.length:Int)-1),p.2)).1=0 then some (!b,p)else if b=true then none else some (false,(ay T (p.1-((xs.length:Int)-1),p.2)).1+((xs.length:Int)-1),(ay T (p.1-((xs.length:Int)-1),p.2)).2):=fun b p hp hT=>by
  have hlt:=hT.2.1;simp only at hlt;have hb:fD (xs.length:Nat) (T.length-1) ((b,p):VP):=by unfold fD;simp only;omega
  have hpos:=ht.pos hT;rw[kJ hb];unfold uE;simp only;rw[show(((p.1-(xs.length:Nat)).toNat:Nat):Int)+1=p.1-((xs.length:Int)-1) by omega,if_pos hT];split
  ·simp only[Option.map_some];unfold GN;simp only
   congr 2
   exact Prod.ext (by simp only;omega) rfl
  ·split
   ·rfl
   ·simp only[Option.map_some];unfold GN;simp only
    congr 2
    exact Prod.ext (by simp only;omega) rfl
 have hno:∀(b:Bool) (p:aC),(xs.length:Int)≤p.1→¬ak T (p.1-((xs.length:Int)-1),p.2)→je (xs.length:Nat) (T.length-1) (uE T) σ (b,p)=none:=fun b p hp hT=>by
  by_cases hb:fD (xs.length:Nat) (T.length-1) ((b,p):VP)
  ·rw[kJ hb];unfold uE;simp only;rw[show(((p.1-(xs.length:Nat)).toNat:Nat):Int)+1=p.1-((xs.length:Int)-1) by omega,if_neg hT];rfl
  ·rw[dQ hb];cases b with
   |false=>exact h.no p fun e=>by have:=hL p e;omega
   |true=>exact h.nv p id
 have hout:∀(b:Bool) (p:aC),p.1<(xs.length:Nat)→je (xs.length:Nat) (T.length-1) (uE T) σ (b,p)=σ (b,p):=fun b p hp=>dQ (by unfold fD;simp only;omega)
 have tin:ak T ((ay T (0,0)).1+((xs.length:Int)-1)-((xs.length:Int)-1),(ay T (0,0)).2):=by
  rw[show(ay T (0,0)).1+((xs.length:Int)-1)-((xs.length:Int)-1)=(ay T (0,0)).1 by omega];exact t1
 have tpe:ay T ((ay T (0,0)).1+((xs.length:Int)-1)-((xs.length:Int)-1),(ay T (0,0)).2)=(0,0):=by
  rw[show(ay T (0,0)).1+((xs.length:Int)-1)-((xs.length:Int)-1)=(ay T (0,0)).1 by omega];exact t3
 have htop:∀r:aC,ak T (r.1-((xs.length:Int)-1),r.2)→((ay T (r.1-((xs.length:Int)-1),r.2)).1=0↔r=((ay T (0,0)).1+((xs.length:Int)-1),(ay T (0,0)).2)):=fun r hr=>by
  constructor
  ·intro e;have:=ht.top hr e;exact Prod.ext (by rw[←this];simp only;omega) (by rw[←this])
  ·intro e;rw[e];simp only;rw[tpe]
 refine⟨⟨fun r hr=> ?_,fun r hr=> ?_,fun r hr hx=> ?_,fun r hr=> ?_,fun r hr=> ?_,fun r hr=> ?_,y5 (KW ht) h.wi hF⟩,hF⟩
 ·rcases hr with hr|hr
  ·exact(h.inn r hr).app
  ·exact(ak.jC rfl).2 (.inr hr)
 ·subst hr;exact .inr ⟨by simp only;omega,tin⟩
 ·rcases hr with hr|⟨e,hT⟩
  ·have hl:=hL r hr;have i:=h.inn r hr;rw[hout _ _ hl,h.re r hr id,jD (by have:=i.1;omega)]
  ·rw[hin _ _ e hT,if_neg fun k=>hx ((htop r hT).1 k),if_neg (by simp),sF rfl e hT]
 ·subst hr;rw[hin _ _ (by simp only;omega) tin,if_pos (by simp only;rw[tpe])];rfl
 ·by_cases e:r.1<(xs.length:Nat)
  ·rw[hout _ _ e];exact h.no r fun k=>hr (.inl k)
  ·exact hno _ _ (by omega) fun k=>hr (.inr ⟨by omega,k⟩)
 ·by_cases e:r.1<(xs.length:Nat)
  ·rw[hout _ _ e];exact h.nv r id
  ·by_cases hT:ak T (r.1-((xs.length:Int)-1),r.2)
   ·rw[hin _ _ (by omega) hT,if_neg fun k=>hr ((htop r hT).1 k),if_pos rfl]
   ·exact hno _ _ (by omega) hT
def V6(T:List aj):SG:=[(.x 0,.s ((ay T (0,0)).1-1).toNat (ay T (0,0)).2)]
theorem rel7(h:Rel xs L xH σ)(ht:EH T)(hn:xs.length=n)(hx:L (x,0))(hx0:0≤x)(w:ay xs (x,0)=(y,0)):
  Rel (bE (xs++(T.drop 1).map (bQ ((n:Int)-1))) (y,0) ((ay T (0,0)).1+((n:Int)-1),(ay T (0,0)).2)) (fun r=>(L r∧r≠(x,0))∨((n:Int)≤r.1∧ak T (r.1-((n:Int)-1),r.2))) xH (gV (SG.g n x y (V6 T)) (je n (T.length-1) (uE T) σ)):=by
 obtain⟨h1, -⟩:=h.Uu ht hn;obtain⟨t1,t2,t3⟩:=ht.Ux;have hl:x<(n:Nat):=by have:=(h.inn _ hx).2.1;simp only at this;omega
 have h2:=h1.move (p:=(x,0)) (q:=((ay T (0,0)).1+((n:Int)-1),(ay T (0,0)).2)) (.inl hx) (fun e=>by have:=congrArg Prod.fst e;simp only at this;omega) rfl
 have e:bX (xs++(T.drop 1).map (bQ ((n:Int)-1))) (x,0) ((ay T (0,0)).1+((n:Int)-1),(ay T (0,0)).2)=bE (xs++(T.drop 1).map (bQ ((n:Int)-1))) (y,0) ((ay T (0,0)).1+((n:Int)-1),(ay T (0,0)).2):=by
  unfold bX;rw[jD (by simp only;omega),w]
 rw[e]at h2
 have e2:((SP.s ((ay T (0,0)).1-1).toNat (ay T (0,0)).2).v n x y)=(true,((ay T (0,0)).1+((n:Int)-1),(ay T (0,0)).2)):=by
  unfold SP.v;simp only[Prod.mk.injEq,true_and,and_true];omega
 have e3:gV (SG.g n x y (V6 T)) (je n (T.length-1) (uE T) σ)=glue (false,(x,0)) (true,((ay T (0,0)).1+((n:Int)-1),(ay T (0,0)).2)) (je n (T.length-1) (uE T) σ):=by
  rw[←e2];rfl
 rw[e3];refine h2.congr (fun r=> ?_) fun r=> ?_
 ·constructor
  ·rintro(⟨l,e1⟩|e1)
   ·exact⟨.inl l,e1⟩
   ·exact⟨.inr e1,fun e=>by rw[e]at e1;simp only at e1;omega⟩
  ·rintro⟨l|l,e1⟩
   ·exact .inl ⟨l,e1⟩
   ·exact .inr l
 ·exact⟨False.elim,fun e=>e.2 e.1⟩
end
end Go.Tr
namespace Go.Tr
open Go Go.RowKit
abbrev pG(a:aj):Nat:=a.2.2.2.2.length
def lsN(c:Int)(u v:aj):List Nat:=
 bif c==3 then[pG v,pG v]++List.replicate (pG v-1) 3 else bif c==4 then List.replicate (pG v-1) 1 else bif c==5 then(bif v.1==7 then[2]else[1])
 else bif c==6 then(bif u.1==6 then[1]else[1]++List.replicate (pG u-1) 3)else[]
def OY(bk:List (List aj))(u:aj):List aj:=bU u.2.1 (bJ bk u.2.2.1)
def Bv(bk:List (List aj))(c:Int)(u v:aj):Nat:=bif c==7 then(OY bk u).length-1 else(lsN c u v).length
def KU(bk:List (List aj))(c:Int)(u v:aj):W0:=bif c==7 then uE (OY bk u)else stubs (lsN c u v)
def ER(bk:List (List aj))(c:Int)(u v:aj):SG:=
 bif c==3 then E8 (pG v-1) (pG v-1)else bif c==4 then Ky (pG v-1)else bif c==5 then(bif v.1==7 then DF else wJ)
 else bif c==6 then(bif u.1==6 then wJ else Kz (pG u-1))else bif c==7 then V6 (OY bk u)else OC
theorem Rp(i:Nat):SP.s (1+i) 0≠spR i:=by
 rw[IJ];have:=Sn i;intro e;injection e with e1 e2
 omega
theorem JQ(bk:List (List aj))(c:Int)(u v:aj):∀e∈ER bk c u v,e.1≠e.2:=by
 have d4:∀k,∀e∈Ky k,e.1≠e.2:=fun k e he=>by
  unfold Ky at he;rcases qT.1 he with h|h
  ·rw[qX]at h;rw[h];exact fun h=>by cases h
  ·obtain⟨i,_,rfl⟩:=List.mem_map.1 h;exact fun h=>by cases h
 have d5a:∀e∈DF,e.1≠e.2:=fun e he=>by
  have:e=(.x 0,.y 0)∨e=(.y 1,.s 0 0)∨e=(.y 2,.s 0 1):=by simpa[DF]using he
  rcases this with h|h|h<;>rw[h]<;>exact fun h=>by cases h
 have d5b:∀e∈wJ,e.1≠e.2:=fun e he=>by
  have:e=(.x 0,.y 0)∨e=(.y 1,.s 0 0):=by simpa[wJ]using he
  rcases this with h|h<;>rw[h]<;>exact fun h=>by cases h
 have d12:∀e∈OC,e.1≠e.2:=fun e he=>by
  have:e=(.x 0,.y 0)∨e=(.x 1,.y 1)∨e=(.x 2,.y 2):=by simpa[OC]using he
  rcases this with h|h|h<;>rw[h]<;>exact fun h=>by cases h
 have d3:∀k m,∀e∈E8 k m,e.1≠e.2:=fun k m e he=>by
  unfold E8 DC at he;simp only[qT,qX,List.mem_flatMap,List.mem_map,List.mem_cons,List.not_mem_nil,or_false]at he;rcases he with(((h|⟨i,_,h|h⟩)|h)|h)|⟨i,_,h⟩
  ·rw[h];exact fun h=>by cases h
  ·rw[h];intro h2;injection h2 with h3 h4;omega
  ·rw[h];intro h2;injection h2 with h3 h4;omega
  ·rw[h];exact fun h=>by cases h
  ·rw[h];exact fun h=>by cases h
  ·rw[←h];exact fun h=>by cases h
 have d6:∀k,∀e∈Kz k,e.1≠e.2:=fun k e he=>by
  unfold Kz Bo DI at he;simp only[qT,qX,List.mem_map,List.mem_cons,List.not_mem_nil,or_false]at he;rcases he with((h|⟨i,_,h⟩)|⟨i,_,h⟩)|h
  ·rw[h];exact fun h=>by cases h
  ·rw[←h];exact Rp i
  ·rw[←h];exact fun h=>by cases h
  ·rw[h];rw[IJ];exact fun h=>by cases h
 unfold ER;cases c==3
 ·cases c==4
  ·cases c==5
   ·cases c==6
    ·cases c==7
     ·exact d12
     ·intro e he;have:e=(.x 0,.s ((ay (OY bk u) (0,0)).1-1).toNat (ay (OY bk u) (0,0)).2):=by simpa[V6]using he
      rw[this];exact fun h=>by cases h
    ·cases u.1==6
     ·exact d6 _
     ·exact d5b
   ·cases v.1==7
    ·exact d5b
    ·exact d5a
  ·exact d4 _
 ·exact d3 _ _
theorem SP.Zay{n x y:Int}{p q:SP}(hxy:x≠y)(h:p.v n x y=q.v n x y):p=q:=by
 cases p<;>cases q<;>simp only[SP.v,Prod.mk.injEq]at h<;>first|(obtain⟨h1, -⟩:=h;cases h1;done)|skip
 ·rw[h.2.2]
 ·exact absurd h.2.1 hxy
 ·exact absurd h.2.1.symm hxy
 ·rw[h.2.2]
 ·rw[h.2.2]
  congr 1
  omega
theorem SG.dist{n x y:Int}{φ:SG}(hxy:x≠y)(h:∀e∈φ,e.1≠e.2):GOk (SG.g n x y φ):=fun e he=>by
 obtain⟨f,hf,rfl⟩:=List.mem_map.1 he;exact fun k=>h f hf (SP.Zay hxy k)
section
variable {D:Int→Prop}{σ:Wi}{n:Nat}{x y c:Int}{xs zs news:List aj}{L:aC→Prop}{bk:List (List aj)}
theorem MH(hs:dY zs (xs++news))(r:aC):ak zs r↔ak xs r∨((xs.length:Int)≤r.1∧r.1<((xs.length+news.length:Nat):Int)∧0≤r.2∧r.2<(((news.map pG).getD (r.1-xs.length).toNat 0:Nat):Int)):=by
 have hl:=hs.1;rw[qA]at hl;unfold ak;rw[hl]
 by_cases h0:0≤r.1∧r.1<((xs.length+news.length:Nat):Int)
 ·have h1:=hs.2 r.1 h0.1 (by rw[hl];exact h0.2);have h2:(ah zs r.1).aN.length=(ah (xs++news) r.1).aN.length:=congrArg (fun s:Int×Int×Int×List Int×Nat=>s.2.2.2.2) h1;rw[h2]
  by_cases h3:r.1<(xs.length:Nat)
  ·rw[bZ (by omega)];constructor
   ·rintro⟨a,b,d,e⟩;exact .inl ⟨a,h3,d,e⟩
   ·rintro(⟨a,b,d,e⟩|⟨a,_⟩)
    ·exact⟨a,h0.2,d,e⟩
    ·omega
  ·have e:(ah (xs++news) r.1).aN.length=(news.map pG).getD (r.1-xs.length).toNat 0:=by
    unfold ah elt;rw[qC,qL (by omega),qC,qY,show(r.1-(xs.length:Nat)).toNat=r.1.toNat-xs.length by omega,qB (by omega)];rfl
   rw[e];constructor
   ·rintro⟨a,b,d,e⟩;exact .inr ⟨by omega,b,d,e⟩
   ·rintro(⟨a,b,d,e⟩|⟨a,b,d,e⟩)
    ·omega
    ·exact⟨by omega,b,d,e⟩
 ·constructor
  ·rintro⟨a,b,_⟩;exact absurd ⟨a,b⟩ h0
  ·rintro(⟨a,b,d,e⟩|⟨a,b,d,e⟩)
   ·exact absurd ⟨a,by omega⟩ h0
   ·exact absurd ⟨by omega,b⟩ h0
theorem Sw(hs:dY zs (xs++news))(hD:∀i,D i→i<(xs.length:Nat))(hx:x<(xs.length:Nat))(hy:y<(xs.length:Nat)){ls:List Nat}(hn:news.map pG=ls)(r:aC):
  Live (fun i=>D i∨i=x∨i=y) zs r↔xV (Live D xs) xs.length ls x y r:=by
 unfold Live xV;rw[MH hs,hn];have hl:news.length=ls.length:=by rw[←hn,qV]
 rw[hl];constructor
 ·rintro⟨h|⟨h1,h2,h3,h4⟩,h5⟩
  ·exact .inl ⟨⟨h,fun e=>h5 (.inl e)⟩,fun e=>h5 (.inr (.inl e)),fun e=>h5 (.inr (.inr e))⟩
  ·exact .inr ⟨h1,h2,h3,h4⟩
 ·rintro(⟨⟨h1,h2⟩,h3,h4⟩|⟨h1,h2,h3,h4⟩)
  ·exact⟨.inl h1,by rintro(e|e|e);exact h2 e;exact h3 e;exact h4 e⟩
  ·refine⟨.inr ⟨h1,h2,h3,h4⟩,?_⟩;rintro(e|e|e)
   ·have:=hD _ e;omega
   ·omega
   ·omega
end
end Go.Tr
namespace Go.Tr
open Go Go.RowKit
section
variable {D:Int→Prop}{σ:Wi}{n:Nat}{x y c:Int}{xs zs:List aj}{L:aC→Prop}{bk:List (List aj)}
theorem YO(h:Rel xs L xH σ){ky:Nat}(k:tF L xs n x y 3 ky)(hky:(ah xs y).2.2.2.2.length=ky)(hy1:1≤ky):tC σ n x y (bM xs x y) ([ky,ky]++List.replicate (ky-1) 3) (E8 (ky-1) (ky-1)) (xV L n ([ky,ky]++List.replicate (ky-1) 3) x y) xH:=by
 have h0:=rs3 h k hky hy1 (ky-1) (by omega);have e:bM xs x y=cB y (n+2) (mH xs x y) (ky-1):=by unfold bM;rw[hky,k.len]
 rw[e];refine h0.congr (fun r=> ?_) fun r=> ?_
 ·have qx:=k.px r.2;have qy:=k.py r.2;have ql:=k.lt r;have x0:=k.x0;have y0:=k.y0;unfold xV L3;obtain⟨a,b⟩:=r
  have hg1:∀i:Nat,i<ky-1→([ky,ky]++List.replicate (ky-1) 3:List Nat).getD (i+2) 0=3:=fun i hi=>by
   rw[qC];simp[List.getElem?_replicate,hi]
  have hga:a=(n:Int)∨a=(n:Int)+1→([ky,ky]++List.replicate (ky-1) 3:List Nat).getD (a-n).toNat 0=ky:=by
   rintro(e|e)
   ·rw[show(a-n).toNat=0 by omega];rfl
   ·rw[show(a-n).toNat=1 by omega];rfl
  have hgb:(n:Int)+2≤a→a<(n:Int)+2+((ky-1:Nat):Int)→([ky,ky]++List.replicate (ky-1) 3:List Nat).getD (a-n).toNat 0=3:=fun e0 e1=>by rw[show(a-n).toNat=(a-n).toNat-2+2 by omega];exact hg1 _ (by omega)
  have hl:([ky,ky]++List.replicate (ky-1) 3:List Nat).length=ky+1:=by simp;omega
  rw[hl];simp only[ne_eq,Prod.mk.injEq]at*;generalize ([ky,ky]++List.replicate (ky-1) 3:List Nat).getD (a-n).toNat 0=g at*
  grind
 ·obtain⟨a,b⟩:=r;simp only at*
  grind
theorem YP(h:Rel xs L xH σ){ky:Nat}(k:tF L xs n x y 1 ky)(hky:(ah xs y).2.2.2.2.length=ky)(hy1:1≤ky):tC σ n x y (iA xs y) (List.replicate (ky-1) 1) (Ky (ky-1)) (xV L n (List.replicate (ky-1) 1) x y) xH:=by
 have h0:=rs4 h k (ky-1) (by omega);unfold iA;rw[hky];refine h0.congr (fun r=> ?_) fun r=>Iff.rfl
 ·have qx:=k.px r.2;have qy:=k.py r.2;have ql:=k.lt r;have x0:=k.x0;have y0:=k.y0;unfold xV;obtain⟨a,b⟩:=r
  have hgb:(n:Int)≤a→a<(n:Int)+((ky-1:Nat):Int)→(List.replicate (ky-1) 1:List Nat).getD (a-n).toNat 0=1:=fun e0 e1=>by
   have:(a-n).toNat<ky-1:=by omega
   rw[qC,List.getElem?_replicate,if_pos this];rfl
  have hl:(List.replicate (ky-1) 1:List Nat).length=ky-1:=by simp
  rw[hl];simp only[ne_eq,Prod.mk.injEq]at*;generalize (List.replicate (ky-1) 1:List Nat).getD (a-n).toNat 0=g at*
  grind
theorem ZY(h:Rel xs (Live D xs) xH σ)(k:iM D xs x y)(hD:∀i,D i→i<(xs.length:Nat)):tF (Live D xs) xs xs.length x y (pG (ah xs x)) (pG (ah xs y)):=by
 have hp:∀(z:Int),ak xs (z,0)→¬D z→∀i:Int,Live D xs (z,i)↔0≤i∧i<((pG (ah xs z):Nat):Int):=fun z hz hd i=>
  ⟨fun e=>⟨e.1.2.2.1,e.1.2.2.2⟩,fun e=>⟨⟨hz.1,hz.2.1,e.1,e.2⟩,hd⟩⟩
 exact⟨k.ne,⟨k.px.1,k.px.2.1⟩,⟨k.py.1,k.py.2.1⟩,rfl,hp x k.px k.lx,hp y k.py k.ly,by have e:(0:Int)<((ah xs x).aN.length:Nat):=k.px.2.2.2;show 0<(ah xs x).aN.length;omega,fun r hr=>hr.1.2.1,k.w⟩
structure Xz(bk:List (List aj))(D:Int→Prop)(xs:List aj)(c x y:Int)(σ:Wi):Prop where
 rel:Rel (aV bk xs c x y) (Live (fun i=>D i∨i∈bR c x y) (aV bk xs c x y)) xH (gV (SG.g (xs.length:Nat) x y (ER bk c (ah xs x) (ah xs y))) (je (xs.length:Nat) (Bv bk c (ah xs x) (ah xs y)) (KU bk c (ah xs x) (ah xs y)) σ))
 tok:UO (Bv bk c (ah xs x) (ah xs y)) (KU bk c (ah xs x) (ah xs y))
 gok:(ER bk c (ah xs x) (ah xs y)).ok (Bv bk c (ah xs x) (ah xs y))
 num:Bv bk c (ah xs x) (ah xs y)=(lu bk xs c x y).length
theorem PX(h:Rel xs (Live D xs) xH σ)(k:iM D xs x y)(hD:∀i,D i→i<(xs.length:Nat))(hw:QK D xs)(hr:rule (ah xs x).1 (ah xs x).2.1 (ah xs y).1 (ah xs y).2.1=c)(hc:1≤c∧c≤7)(hb:BkW bk)(h7:c=7→(ah xs x).2.2.1<(bk.length:Nat)):Xz bk D xs c x y σ:=by
 have wx:=hw x k.px.1 k.px.2.1 k.lx;have wy:=hw y k.py.1 k.py.2.1 k.ly;obtain⟨x1,x2,x3,x4⟩:=jw wx;obtain⟨y1,y2,y3,y4⟩:=jw wy;obtain⟨r1,r2,r3,r4,r5,r6,r7⟩:=fF hr (by omega);have P:=ZY h k hD;have hx:=P.x0;have hy:=P.y0;have sg:=nM (bk:=bk) (xs:=xs) (x:=x) (y:=y) hc (by omega)
 have fin:∀{ls:List Nat} {φ:SG},c≠7→lsN c (ah xs x) (ah xs y)=ls→ER bk c (ah xs x) (ah xs y)=φ→(lu bk xs c x y).map pG=ls→tC σ xs.length x y (aV bk xs c x y) ls φ (xV (Live D xs) xs.length ls x y) xH→Xz bk D xs c x y σ:=fun {ls φ} n7 e1 e2 e3 R=>by
  have c7:(c==7)=false:=by simpa using n7
  have en:Bv bk c (ah xs x) (ah xs y)=ls.length:=by unfold Bv;rw[c7,e1];rfl
  have et:KU bk c (ah xs x) (ah xs y)=stubs ls:=by unfold KU;rw[c7,e1];rfl
  refine⟨?_,by rw[en,et];exact Ej ls,by rw[e2,en];exact R.ok,by rw[en,←e3,qV]⟩;rw[en,et,e2];refine R.rel.congr (fun r=> ?_) fun _=>Iff.rfl
  have eg:(fun i=>D i∨i∈bR c x y)=fun i=>D i∨i=x∨i=y:=funext fun i=>propext (by unfold bR;rw[c7];simp)
  rw[eg];exact Sw sg hD hx.2 hy.2 e3 r
 have hcs:c=1∨c=2∨c=3∨c=4∨c=5∨c=6∨c=7:=by omega
 rcases hcs with rfl|rfl|rfl|rfl|rfl|rfl|rfl
 ·obtain⟨a,b⟩:=r1 rfl;have kx:pG (ah xs x)=3:=x3 (by omega);have ky:pG (ah xs y)=3:=y3 (by omega);rw[kx,ky]at P;exact fin (by decide) rfl rfl rfl (Zal h P)
 ·obtain⟨a,b⟩:=r2 rfl;have kx:pG (ah xs x)=3:=x3 (by omega);have ky:pG (ah xs y)=3:=y3 (by omega);rw[kx,ky]at P;exact fin (by decide) rfl rfl rfl (Zal h P)
 ·have kx:pG (ah xs x)=3:=x3 (by have:=r3 rfl;omega);rw[kx]at P;refine fin (by decide) rfl rfl ?_ (YO h P rfl (eF wy).2.2.2);show([lg xs y]++[lg xs y]++List.replicate ((ah xs y).2.2.2.2.length-1) (aX 4 (ah xs x).2.1 0 [] 3)).map pG=[pG (ah xs y),pG (ah xs y)]++List.replicate (pG (ah xs y)-1) 3;unfold lg aX;simp[pG]
 ·have kx:pG (ah xs x)=1:=x1 (by have:=r4 rfl;omega);rw[kx]at P;refine fin (by decide) rfl rfl ?_ (YP h P rfl (eF wy).2.2.2);show(List.replicate ((ah xs y).2.2.2.2.length-1) (aX 5 0 0 [] 1)).map pG=List.replicate (pG (ah xs y)-1) 1;unfold aX;simp[pG]
 ·obtain⟨a,b⟩:=r5 rfl;have kx:pG (ah xs x)=1:=x1 (by omega);rw[kx]at P;cases hk:(ah xs y).1==7 with
  |true=>
   have k7:(ah xs y).1=7:=by simpa using hk
   have ky:pG (ah xs y)=3:=y3 (by omega);rw[ky]at P;refine fin (ls:=[2]) (φ:=DF) (by decide) ?_ ?_ ?_ ?_
   ·show(bif (ah xs y).1==7 then[2]else[1])=_;rw[hk];rfl
   ·show(bif (ah xs y).1==7 then DF else wJ)=_;rw[hk];rfl
   ·show(bif (ah xs y).1==7 then[aX 8 (ah xs y).2.1 (ah xs y).2.2.1 [(ah xs x).2.2.1] 2]else[aX 6 0 (vJ (ah xs y).2.2.1 (jN (ah xs y).2.2.2.1 0) (ah xs x).2.2.1) [] 1]).map pG=_;rw[hk];rfl
   ·show tC σ xs.length x y (bB xs x y) _ _ _ _;unfold bB;rw[hk];exact YQ h P _ _ _ _
  |false=>
   have k7:(ah xs y).1≠7:=by simpa using hk
   have ky:pG (ah xs y)=2:=y2 (by omega);rw[ky]at P;refine fin (ls:=[1]) (φ:=wJ) (by decide) ?_ ?_ ?_ ?_
   ·show(bif (ah xs y).1==7 then[2]else[1])=_;rw[hk];rfl
   ·show(bif (ah xs y).1==7 then DF else wJ)=_;rw[hk];rfl
   ·show(bif (ah xs y).1==7 then[aX 8 (ah xs y).2.1 (ah xs y).2.2.1 [(ah xs x).2.2.1] 2]else[aX 6 0 (vJ (ah xs y).2.2.1 (jN (ah xs y).2.2.2.1 0) (ah xs x).2.2.1) [] 1]).map pG=_;rw[hk];rfl
   ·show tC σ xs.length x y (bB xs x y) _ _ _ _;unfold bB;rw[hk];exact Uh h P _ _ _ _
 ·have q:=r6 rfl;have ky:pG (ah xs y)=2:=y2 (by omega);rw[ky]at P
  have en:lu bk xs 6 x y=(bif (ah xs x).1==6 then[aX 12 (ah xs y).2.1 (jN (ah xs y).2.2.2.1 (bif (ah xs x).2.2.1==0 then 1 else 0)) [] 1]
   else[aX 12 (ah xs y).2.1 (jN (ah xs y).2.2.2.1 (ah xs x).2.2.1) [] 1]++List.replicate ((ah xs x).2.2.2.2.length-1) (aX 3 (ah xs y).2.1 0 [] 3)):=rfl
  cases hk:(ah xs x).1==6 with
  |true=>
   have k6:(ah xs x).1=6:=by simpa using hk
   have kx:pG (ah xs x)=1:=x1 (by omega);rw[kx]at P;refine fin (ls:=[1]) (φ:=wJ) (by decide) ?_ ?_ ?_ ?_
   ·show(bif (ah xs x).1==6 then[1]else[1]++List.replicate (pG (ah xs x)-1) 3)=_;rw[hk];rfl
   ·show(bif (ah xs x).1==6 then wJ else Kz (pG (ah xs x)-1))=_;rw[hk];rfl
   ·rw[en,hk];rfl
   ·show tC σ xs.length x y (gY xs x y) _ _ _ _;unfold gY;rw[hk];exact Uh h P _ _ _ _
  |false=>
   refine fin (ls:=[1]++List.replicate (pG (ah xs x)-1) 3) (φ:=Kz (pG (ah xs x)-1)) (by decide) ?_ ?_ ?_ ?_
   ·show(bif (ah xs x).1==6 then[1]else[1]++List.replicate (pG (ah xs x)-1) 3)=_;rw[hk];rfl
   ·show(bif (ah xs x).1==6 then wJ else Kz (pG (ah xs x)-1))=_;rw[hk];rfl
   ·rw[en,hk];unfold aX;simp[pG]
   ·show tC σ xs.length x y (gY xs x y) _ _ _ _;unfold gY;rw[hk];exact rs6 h P _ _ _ _ _
 ·obtain⟨a,b⟩:=r7 rfl;have v:=rP wx a;have kx:pG (ah xs x)=1:=x1 (by omega);have tm:EH (OY bk (ah xs x)):=⟨(hb.wi _ v.1 (h7 rfl)).shift,ak.gT.2 (hb.r0 _ v.1 (h7 rfl)),fun p hp e=>hb.r1 _ v.1 (h7 rfl) p (ak.gT.1 hp) e⟩;have lx:Live D xs (x,0):=⟨k.px,k.lx⟩;have R:=rel7 (T:=OY bk (ah xs x)) (n:=xs.length) h tm rfl lx hx.1 k.w;refine⟨?_,KW tm,?_,?_⟩
  ·refine R.congr (fun r=> ?_) fun _=>Iff.rfl
   show Live (fun i=>D i∨i∈bR 7 x y) (jJ bk xs x y) r↔_
   have hp:ak (jJ bk xs x y) r↔ak xs r∨((xs.length:Int)≤r.1∧ak (OY bk (ah xs x)) (r.1-((xs.length:Int)-1),r.2)):=by
    unfold jJ;rw[←ak.jC rfl];exact⟨fun e=>e.unlink,fun e=>e.link⟩
   unfold Live;rw[hp]
   have hone:∀i:Int,ak xs (x,i)→i=0:=fun i hi=>by
    have h1:=hi.2.2.1;have h2:=hi.2.2.2;have kx':(ah xs x).aN.length=1:=kx;simp only at h1 h2;rw[kx']at h2;omega
   unfold bR;simp only[beq_self_eq_true,qG,qX];constructor
   ·rintro⟨h1|h1,h2⟩
    ·exact .inl ⟨⟨h1,fun e=>h2 (.inl e)⟩,fun e=>h2 (.inr (by rw[e]))⟩
    ·exact .inr h1
   ·rintro(⟨⟨h1,h2⟩,h3⟩|h1)
    ·refine⟨.inl h1,?_⟩;rintro(e|e)
     ·exact h2 e
     ·obtain⟨ra,rb⟩:=r;simp only at e;subst e;exact h3 (by rw[hone rb h1])
    ·refine⟨.inr h1,?_⟩;rintro(e|e)
     ·have:=hD _ e;omega
     ·have:=h1.1;omega
  ·intro e he;have e1:e=(.x 0,.s ((ay (OY bk (ah xs x)) (0,0)).1-1).toNat (ay (OY bk (ah xs x)) (0,0)).2):=qX.1 he;rw[e1];refine⟨trivial,?_⟩;have:=tm.Ux;have h2:=tm.pos tm.p0;show((ay (OY bk (ah xs x)) (0,0)).1-1).toNat<(OY bk (ah xs x)).length-1;omega
  ·show(OY bk (ah xs x)).length-1=(((mF bk xs x).drop 1).map (bQ ((xs.length:Nat)-1))).length;rw[mg];rfl
end
end Go.Tr
namespace Go.Tr
open Go Go.RowKit
def kD(n k k':Nat)(i:Int):Int:=if i<n then i else if i<(n:Int)+k then i+k' else if i<(n:Int)+k+k' then i-k else i
theorem IK{n k k':Nat}(a b:Int)(h:kD n k k' a=kD n k k' b):a=b:=by
 unfold kD at h;split at h<;>split at h<;>(try split at h)<;>(try split at h)<;>(try split at h)<;>(try split at h)<;>omega
theorem nY{n k k':Nat}{i:Int}(h:i<(n:Int)):kD n k k' i=i:=by unfold kD;rw[if_pos h]
theorem Cc{n k k':Nat}{j:Nat}(h:j<k):kD n k k' ((n:Int)+j)=((n+k':Nat):Int)+j:=by unfold kD;rw[if_neg (by omega),if_pos (by omega)];omega
theorem Ce{n k k':Nat}{j:Nat}(h:j<k'):kD n k k' (((n+k:Nat):Int)+j)=(n:Int)+j:=by unfold kD;rw[if_neg (by omega),if_neg (by omega),if_pos (by omega)];omega
theorem OW{n k k':Nat}{i:Int}(h:(n:Int)+k+k'≤i):kD n k k' i=i:=by unfold kD;rw[if_neg (by omega),if_neg (by omega),if_neg (by omega)]
theorem OX(n k k':Nat)(i:Int):kD n k' k (kD n k k' i)=i:=by
 unfold kD
 (repeat' split)<;>omega
theorem YM{n k k':Nat}{τ τ':W0}{σ:Wi}(ht:UO k τ)(ht':UO k' τ')(hf:∀t:VP,(n:Int)≤t.2.1→σ t=none)(hi:Cm σ):
  U3 (kD n k k') (je ((n+k:Nat):Int) k' τ' (je n k τ σ)) (je ((n+k':Nat):Int) k τ (je n k' τ' σ)):=by
 rintro⟨b,a,i⟩
 by_cases h0:a<(n:Int)
 ·have e:xC (kD n k k') (b,(a,i))=(b,(a,i)):=by unfold xC;simp only;rw[nY h0]
  rw[e,dQ (by unfold fD;simp only;omega),dQ (by unfold fD;simp only;omega),dQ (by unfold fD;simp only;omega),dQ (by unfold fD;simp only;omega)];cases hs:σ (b,(a,i))with
  |none=>rfl
  |some q=>
   obtain⟨h1,h2⟩:=hi _ _ hs
   have hq:q.2.1<(n:Int):=by
    rcases Int.lt_or_le q.2.1 n with e|e
    ·exact e
    ·rw[hf q e]at h1;cases h1
   simp only[Option.map_some,Option.some.injEq];unfold xC;rw[nY hq]
 ·by_cases h1:a<(n:Int)+k
  ·obtain⟨j,rfl⟩:∃j:Nat,a=(n:Int)+j:=⟨(a-n).toNat,by omega⟩;have hj:j<k:=by omega
   have e:xC (kD n k k') (b,((n:Int)+j,i))=(b,(((n+k':Nat):Int)+j,i)):=by unfold xC;simp only;rw[Cc hj]
   rw[e,kJ (by unfold fD;simp only;omega),dQ (by unfold fD;simp only;omega),kJ (by unfold fD;simp only;omega)];simp only;rw[show(((n+k':Nat):Int)+(j:Int)-((n+k':Nat):Int)).toNat=j by omega,show((n:Int)+(j:Int)-(n:Int)).toNat=j by omega];cases hq:τ (b,j,i)with
   |none=>rfl
   |some q=>
    have hl:=(ht.lt _ _ hq).2;simp only[Option.map_some,Option.some.injEq];unfold GN xC;simp only;rw[Cc hl]
  ·by_cases h2:a<(n:Int)+k+k'
   ·obtain⟨j,rfl⟩:∃j:Nat,a=((n+k:Nat):Int)+j:=⟨(a-n-k).toNat,by omega⟩;have hj:j<k':=by omega
    have e:xC (kD n k k') (b,(((n+k:Nat):Int)+j,i))=(b,((n:Int)+j,i)):=by unfold xC;simp only;rw[Ce hj]
    rw[e,dQ (by unfold fD;simp only;omega),kJ (by unfold fD;simp only;omega),kJ (by unfold fD;simp only;omega)];simp only;rw[show(((n+k:Nat):Int)+(j:Int)-((n+k:Nat):Int)).toNat=j by omega,show((n:Int)+(j:Int)-(n:Int)).toNat=j by omega];cases hq:τ' (b,j,i)with
    |none=>rfl
    |some q=>
     have hl:=(ht'.lt _ _ hq).2;simp only[Option.map_some,Option.some.injEq];unfold GN xC;simp only;rw[Ce hl]
   ·have e:xC (kD n k k') (b,(a,i))=(b,(a,i)):=by unfold xC;simp only;rw[OW (by omega)]
    rw[e,dQ (by unfold fD;simp only;omega),dQ (by unfold fD;simp only;omega),dQ (by unfold fD;simp only;omega),dQ (by unfold fD;simp only;omega),hf _ (by simp only;omega)];rfl
theorem Ww{n k k':Nat}{x y:Int}{φ:SG}(ok:φ.ok k)(hx:x<(n:Int))(hy:y<(n:Int)):rnG (kD n k k') (SG.g n x y φ)=SG.g ((n+k':Nat):Int) x y φ:=by
 unfold rnG SG.g;rw[List.map_map];refine List.map_congr_left fun e he=> ?_
 have key:∀p:SP,p.ok k→xC (kD n k k') (p.v n x y)=p.v ((n+k':Nat):Int) x y:=fun p hp=>by
  cases p with
  |x i=>unfold SP.v xC;simp only;rw[nY hx]
  |y i=>unfold SP.v xC;simp only;rw[nY hy]
  |s j i=>unfold SP.v xC;simp only;rw[Cc hp]
 show(_,_)=(_,_);rw[key _ (ok e he).1,key _ (ok e he).2]
theorem Wx{n k k':Nat}{x y:Int}{φ:SG}(ok:φ.ok k')(hx:x<(n:Int))(hy:y<(n:Int)):rnG (kD n k k') (SG.g ((n+k:Nat):Int) x y φ)=SG.g n x y φ:=by
 unfold rnG SG.g;rw[List.map_map];refine List.map_congr_left fun e he=> ?_
 have key:∀p:SP,p.ok k'→xC (kD n k k') (p.v ((n+k:Nat):Int) x y)=p.v n x y:=fun p hp=>by
  cases p with
  |x i=>unfold SP.v xC;simp only;rw[nY hx]
  |y i=>unfold SP.v xC;simp only;rw[nY hy]
  |s j i=>unfold SP.v xC;simp only;rw[Ce hp]
 show(_,_)=(_,_);rw[key _ (ok e he).1,key _ (ok e he).2]
theorem PS{n k:Nat}{x y x' y':Int}{φ φ':SG}(ok:φ.ok k)(hx:x<(n:Int))(hy:y<(n:Int))(hx':x'<(n:Int))(hy':y'<(n:Int))(h1:x≠x')(h2:x≠y')(h3:y≠x')(h4:y≠y'):
  ∀e∈SG.g n x y φ,∀f∈SG.g ((n+k:Nat):Int) x' y' φ',La e f:=fun e he f hf=>by
 obtain⟨e,me,rfl⟩:=List.mem_map.1 he;obtain⟨f,_,rfl⟩:=List.mem_map.1 hf
 have key:∀p q:SP,p.ok k→p.v n x y≠q.v ((n+k:Nat):Int) x' y':=fun p q hp e=>by
  cases p<;>cases q<;>simp only[SP.v,Prod.mk.injEq]at e
  ·exact h1 e.2.1
  ·exact h2 e.2.1
  ·cases e.1
  ·exact h3 e.2.1
  ·exact h4 e.2.1
  ·cases e.1
  ·cases e.1
  ·cases e.1
  ·have hj:=hp;unfold SP.ok at hj;omega
 exact⟨key _ _ (ok e me).1,key _ _ (ok e me).1,key _ _ (ok e me).2,key _ _ (ok e me).2⟩
theorem M5{n k k':Nat}{x y x' y':Int}{τ τ':W0}{φ φ':SG}{σ:Wi}(ht:UO k τ)(ht':UO k' τ')(ok:φ.ok k)(ok':φ'.ok k')(d:∀e∈φ,e.1≠e.2)(d':∀e∈φ',e.1≠e.2)
  (hf:∀t:VP,(n:Int)≤t.2.1→σ t=none) (hi:Cm σ) (hx:x<(n:Int)) (hy:y<(n:Int)) (hx':x'<(n:Int)) (hy':y'<(n:Int)) (hxy:x≠y) (hxy':x'≠y') (h1:x≠x') (h2:x≠y') (h3:y≠x') (h4:y≠y'):
  U3 (kD n k k') (gV (SG.g ((n+k:Nat):Int) x' y' φ') (je ((n+k:Nat):Int) k' τ' (gV (SG.g n x y φ) (je n k τ σ)))) (gV (SG.g ((n+k':Nat):Int) x y φ) (je ((n+k':Nat):Int) k τ (gV (SG.g n x' y' φ') (je n k' τ' σ)))):=by
 have o1:UW ((n+k:Nat):Int) k' (SG.g n x y φ):=by
  have:=SG.out (n:=n) (x:=x) (y:=y) (k:=k') ok hx hy
  rwa[show(n:Int)+(k:Nat)=((n+k:Nat):Int) by omega]at this
 have o2:UW ((n+k':Nat):Int) k (SG.g n x' y' φ'):=by
  have:=SG.out (n:=n) (x:=x') (y:=y') (k:=k) ok' hx' hy'
  rwa[show(n:Int)+(k':Nat)=((n+k':Nat):Int) by omega]at this
 have f1:p9 n k σ:=fun t h=>hf t h.1
 have f2:p9 n k' σ:=fun t h=>hf t h.1
 have f3:p9 ((n+k:Nat):Int) k' (je n k τ σ):=fun t h=>by
  unfold fD at h;rw[dQ (by unfold fD;omega)];exact hf t (by omega)
 rw[uR ht' o1,uR ht o2];have R:=(YM ht ht' hf hi).gV IK (φ:=SG.g n x y φ);have R2:=R.gV IK (φ:=SG.g ((n+k:Nat):Int) x' y' φ');rw[Ww ok hx hy,Wx ok' hx' hy']at R2
 have i2:Cm (je ((n+k':Nat):Int) k τ (je n k' τ' σ)):=by
  refine y5 ht (y5 ht' hi f2) fun t h=> ?_
  unfold fD at h;rw[dQ (by unfold fD;omega)];exact hf t (by omega)
 have c:=C8 (φ:=SG.g n x' y' φ') (ψ:=SG.g ((n+k':Nat):Int) x y φ) (SG.dist hxy' d') (SG.dist hxy d) i2 (PS ok' hx' hy' hx hy (Ne.symm h1) (Ne.symm h3) (Ne.symm h2) (Ne.symm h4));rw[c]at R2;exact R2
instance (kv:List (Int×Bool))(xs:List aj)(p:aC):Decidable (Live (Gone kv) xs p):=by unfold Live Gone;exact inferInstance
def wires(kv:List (Int×Bool))(xs:List aj):Wi:=fun t=>if t.1=false∧Live (Gone kv) xs t.2 then some (false,ay xs t.2)else none
theorem C9{t s:VP}:∀{φ:GL} {σ:Wi},(∀e∈φ,t≠e.1∧t≠e.2∧s≠e.1∧s≠e.2)→σ t=some s→gV φ σ t=some s
 |[],_,_,h=>h
 |e::φ,σ,ha,h=>by
  obtain⟨a1,a2,a3,a4⟩:=ha e (List.mem_cons_self ..);refine C9 (φ:=φ) (fun f hf=>ha f (List.mem_cons_of_mem _ hf)) ?_;show glue e.1 e.2 σ t=some s;unfold glue;rw[h]
  grind
section
variable {kv:List (Int×Bool)}{D:Int→Prop}{xs ys:List aj}{c x y c' x' y':Int}{bk:List (List aj)}{σ:Wi}
theorem Twin.rel(h:Twin kv xs ys):Rel xs (Live (Gone kv) xs) xH (wires kv xs):=by
 have w:=h.st.wi;refine⟨fun p hp=>hp.1,fun p hp=>hp.elim,fun p hp _=> ?_,fun p hp=>hp.elim,fun p hp=> ?_,fun p _=> ?_,fun p q hpq=> ?_⟩
 ·unfold wires;rw[if_pos ⟨rfl,hp⟩]
 ·unfold wires;rw[if_neg fun e=>hp e.2]
 ·unfold wires;rw[if_neg fun e=>by cases e.1]
 ·unfold wires at hpq ⊢;split at hpq
  ·rename_i hp;obtain⟨w1,w2,w3,w4⟩:=w p.2 hp.2;have e:(false,ay xs p.2)=q:=by simpa using hpq
   subst e;rw[if_pos ⟨rfl,w2⟩];obtain⟨b,p⟩:=p;simp only at*;rw[w3];refine⟨by rw[hp.1],fun e=>w4 ?_⟩;simpa using congrArg Prod.snd e
  ·cases hpq
structure Lb(bk:List (List aj))(D:Int→Prop)(xs:List aj)(c x y:Int):Prop where
 k:iM D xs x y
 hr:rule (ah xs x).1 (ah xs x).2.1 (ah xs y).1 (ah xs y).2.1=c
 hc:1≤c∧c≤7
 cl:eZ (ah xs x) (ah xs y)=false
 h7:c=7→(ah xs x).2.2.1<(bk.length:Nat)∧eT (ah xs x).2.1 (bJ bk (ah xs x).2.2.1)=true
 rx:(ah xs x).1≠1
 ry:(ah xs y).1≠1
theorem Twin.Sl(h:Twin kv xs ys)(I:Lb bk (Gone kv) xs c x y)(hb:BkV bk)(hR:Rel xs (Live (Gone kv) xs) xH σ):Xz bk (Gone kv) xs c x y σ:=
 PX hR I.k (fun i hi=>(h.dl i hi).2) h.wf I.hr I.hc hb.toBkW fun e=>(I.h7 e).1
theorem BR(kv:List (Int×Bool))(c x y:Int):Gone (gy kv (bR c x y))=fun i=>Gone kv i∨i∈bR c x y:=funext fun i=>propext (jW kv _ i)
theorem BS{i:Int}(h:i∈bR c x y):i=x∨i=y:=by
 unfold bR at h;cases hq:c==7 with
 |true=>rw[hq,qG,qX]at h;exact .inl h
 |false=>rw[hq,qH]at h;simpa using h
theorem Twin.Bl(h:Twin kv xs ys)(I:Lb bk (Gone kv) xs c x y)(hb:BkV bk):Twin (gy kv (bR c x y)) (aV bk xs c x y) (dP bk ys c x y)∧(aV bk xs c x y).length=xs.length+(lu bk xs c x y).length:=by
 obtain⟨_,_,_,t,l⟩:=h.next I.k hb I.rx I.ry I.hr I.hc I.cl I.h7;exact⟨t,l⟩
structure Four(x y x' y':Int):Prop where
 a:x≠x'
 b:x≠y'
 c:y≠x'
 d:y≠y'
theorem Four.symm(h:Four x y x' y'):Four x' y' x y:=⟨h.a.symm,h.c.symm,h.b.symm,h.d.symm⟩
theorem pI(I:Lb bk D xs c x y){i:Int}(h0:0≤i)(h1:i<(xs.length:Nat)):sig (ah (aV bk xs c x y) i)=sig (ah xs i):=by
 have sg:=nM (bk:=bk) (xs:=xs) (x:=x) (y:=y) I.hc (by have:=I.k.px.2.1;have:=I.k.px.1;simp only at*;omega);have hl:=sg.1;rw[qA]at hl;have:=sg.2 i h0 (by rw[hl];omega)
 rwa[bZ (by omega)]at this
theorem Lb.sigs{xs xs':List aj}{D D':Int→Prop}(I:Lb bk D xs c x y)(k:iM D' xs' x y)(ex:sig (ah xs' x)=sig (ah xs x))(ey:sig (ah xs' y)=sig (ah xs y)):Lb bk D' xs' c x y:=by
 have x1:(ah xs' x).1=(ah xs x).1:=congrArg (fun s:vK=>s.1) ex;have x2:(ah xs' x).2.1=(ah xs x).2.1:=congrArg (fun s:vK=>s.2.1) ex;have x3:(ah xs' x).2.2.1=(ah xs x).2.2.1:=congrArg (fun s:vK=>s.2.2.1) ex;have y1:(ah xs' y).1=(ah xs y).1:=congrArg (fun s:vK=>s.1) ey;have y2:(ah xs' y).2.1=(ah xs y).2.1:=congrArg (fun s:vK=>s.2.1) ey;have y4:(ah xs' y).2.2.2.1=(ah xs y).2.2.2.1:=congrArg (fun s:vK=>s.2.2.2.1) ey;refine⟨k,by rw[x1,x2,y1,y2];exact I.hr,I.hc,?_,by rw[x2,x3];exact I.h7,by rw[x1];exact I.rx,by rw[y1];exact I.ry⟩
 have:=I.cl;unfold eZ at this ⊢;rw[x1,y1,x3,y4];exact this
theorem Twin.later(h:Twin kv xs ys)(I:Lb bk (Gone kv) xs c x y)(J:Lb bk (Gone kv) xs c' x' y')(hb:BkV bk)(f:Four x y x' y'):Lb bk (Gone (gy kv (bR c x y))) (aV bk xs c x y) c' x' y':=by
 have x0:=I.k.px.1;have x1:=I.k.px.2.1;have y0:=I.k.py.1;have y1:=I.k.py.2.1;have x0':=J.k.px.1;have x1':=J.k.px.2.1;have y0':=J.k.py.1;have y1':=J.k.py.2.1;simp only at x0 x1 y0 y1 x0' x1' y0' y1';have ex:=pI I x0' x1';have ey:=pI I y0' y1';have R:=h.rel;have Q:=h.Sl I hb R;obtain⟨T1,l1⟩:=h.Bl I hb
 have lx:¬Gone (gy kv (bR c x y)) x':=fun e=>by
  rcases(jW kv _ _).1 e with e|e
  ·exact J.k.lx e
  ·rcases BS e with e|e
   ·exact f.a e.symm
   ·exact f.c e.symm
 have ly:¬Gone (gy kv (bR c x y)) y':=fun e=>by
  rcases(jW kv _ _).1 e with e|e
  ·exact J.k.ly e
  ·rcases BS e with e|e
   ·exact f.b e.symm
   ·exact f.d e.symm
 have px:ak (aV bk xs c x y) (x',0):=by
  refine⟨x0',by simp only;omega,Int.le_refl 0,?_⟩;have e:(ah (aV bk xs c x y) x').aN.length=(ah xs x').aN.length:=congrArg (fun s:vK=>s.2.2.2.2) ex;have:=J.k.px.2.2.2;simp only at this ⊢;rw[e];exact this
 have py:ak (aV bk xs c x y) (y',0):=by
  refine⟨y0',by simp only;omega,Int.le_refl 0,?_⟩;have e:(ah (aV bk xs c x y) y').aN.length=(ah xs y').aN.length:=congrArg (fun s:vK=>s.2.2.2.2) ey;have:=J.k.py.2.2.2;simp only at this ⊢;rw[e];exact this
 refine J.sigs ⟨J.k.ne,lx,ly,px,py,?_⟩ ex ey;have r1:=Q.rel.re (x',0) (by rw[←BR];exact⟨px,lx⟩) id;have r0:=R.re (x',0) ⟨J.k.px,J.k.lx⟩ id;rw[J.k.w]at r0
 have key:∀z:Int,x≠z→y≠z→∀e∈SG.g (xs.length:Nat) x y (ER bk c (ah xs x) (ah xs y)),((false,(z,0)):VP)≠e.1∧((false,(z,0)):VP)≠e.2:=fun z h1 h2 e he=>by
  obtain⟨g, -,rfl⟩:=List.mem_map.1 he
  have kk:∀p:SP,((false,(z,0)):VP)≠p.v (xs.length:Nat) x y:=fun p e=>by
   cases p<;>simp only[SP.v,Prod.mk.injEq]at e
   ·exact h1 e.2.1.symm
   ·exact h2 e.2.1.symm
   ·cases e.1
  exact⟨kk _,kk _⟩
 have r2:=C9 (φ:=SG.g (xs.length:Nat) x y (ER bk c (ah xs x) (ah xs y))) (σ:=je (xs.length:Nat) (Bv bk c (ah xs x) (ah xs y)) (KU bk c (ah xs x) (ah xs y)) (wires kv xs)) (t:=(false,(x',0))) (s:=(false,(y',0)))
  (fun e he=>⟨(key x' f.a f.c e he).1,(key x' f.a f.c e he).2,(key y' f.b f.d e he).1,(key y' f.b f.d e he).2⟩) (by rw[dQ (by unfold fD;simp only;omega)];exact r0)
 rw[r2]at r1;simpa using r1.symm
end
end Go.Tr
namespace Go.Tr
open Go Go.RowKit
section
variable {kv:List (Int×Bool)}{xs ys:List aj}{c x y c' x' y':Int}{bk:List (List aj)}
theorem Ka{u v u' v':aj}(hu:sig u=sig u')(hv:sig v=sig v'):Bv bk c u v=Bv bk c u' v'∧KU bk c u v=KU bk c u' v'∧ER bk c u v=ER bk c u' v':=by
 unfold sig at hu hv;simp only[Prod.mk.injEq]at hu hv;obtain⟨u1,u2,u3,u4,u5⟩:=hu;obtain⟨v1,v2,v3,v4,v5⟩:=hv;have ku:pG u=pG u':=u5;have kv:pG v=pG v':=v5;unfold Bv KU ER lsN OY;rw[u1,u2,u3,ku,v1,kv];exact⟨rfl,rfl,rfl⟩
theorem K4(T:Twin kv xs ys)(I:Lb bk (Gone kv) xs c x y)(J:Lb bk (Gone kv) xs c' x' y')(hb:BkV bk)(f:Four x y x' y'):
  (aV bk (aV bk xs c x y) c' x' y').map sig=xs.map sig++(mX bk c (ah xs x) (ah xs y)).map sig++(mX bk c' (ah xs x') (ah xs y')).map sig:=by
 have K:=T.later I J hb f;have h1:=(nM (bk:=bk) (xs:=xs) (x:=x) (y:=y) I.hc (by have:=I.k.px.2.1;have:=I.k.px.1;simp only at*;omega)).maps;have h2:=(nM (bk:=bk) (xs:=aV bk xs c x y) (x:=x') (y:=y') K.hc (by have:=K.k.px.2.1;have:=K.k.px.1;simp only at*;omega)).maps;rw[h2,qZ,h1,qZ,wD,wD];rw[Ao (pI I J.k.px.1 J.k.px.2.1) (pI I J.k.py.1 J.k.py.2.1)]
theorem OU{zs:List aj}{S:List vK}(h:zs.map sig=S){i:Int}(h0:0≤i)(h1:i<(zs.length:Nat)):S[i.toNat]? =some (sig (ah zs i)):=by
 rw[←h,qY];unfold ah elt;rw[qC,qB (by omega)];rfl
theorem QD{A B C:List vK}{i:Int}(h0:0≤i)(h1:i<((A.length+B.length+C.length:Nat):Int)):(A++C++B)[(kD A.length B.length C.length i).toNat]? =(A++B++C)[i.toNat]? :=by
 have hl:(A++B).length=A.length+B.length:=qA;have hl2:(A++C).length=A.length+C.length:=qA
 by_cases c1:i<(A.length:Nat)
 ·rw[nY c1,qM (by omega),qM (by omega),qM (by omega),qM (by omega)]
 ·by_cases c2:i<(A.length:Int)+B.length
  ·obtain⟨j,rfl⟩:∃j:Nat,i=(A.length:Int)+j:=⟨(i-A.length).toNat,by omega⟩;rw[Cc (by omega),qL (by omega),qM (by omega),qL (by omega)]
   congr 1
   omega
  ·obtain⟨j,rfl⟩:∃j:Nat,i=((A.length+B.length:Nat):Int)+j:=⟨(i-A.length-B.length).toNat,by omega⟩;rw[Ce (by omega),qM (by omega),qL (by omega),qL (by omega)]
   congr 1
   omega
theorem WJ{n k k':Nat}{i:Int}(h0:0≤i)(h1:i<((n+k+k':Nat):Int)):0≤kD n k k' i∧kD n k k' i<((n+k+k':Nat):Int):=by
 unfold kD
 (repeat' split)<;>omega
structure Swap(bk:List (List aj))(ys:List aj)(c x y c' x' y':Int)(n k k':Nat):Prop where
 n_:ys.length=n
 l1:(dP bk ys c x y).length=n+k
 l2:(dP bk ys c' x' y').length=n+k'
 l12:(dP bk (dP bk ys c x y) c' x' y').length=n+k+k'
 l21:(dP bk (dP bk ys c' x' y') c x y).length=n+k+k'
 at_:∀i:Int,0≤i→i<((n+k+k':Nat):Int)→ah (dP bk (dP bk ys c' x' y') c x y) (kD n k k' i)=Bp (kD n k k') (ah (dP bk (dP bk ys c x y) c' x' y') i)
theorem QB(T:Twin kv xs ys)(I:Lb bk (Gone kv) xs c x y)(J:Lb bk (Gone kv) xs c' x' y')(hb:BkV bk)(f:Four x y x' y'):
  Swap bk ys c x y c' x' y' xs.length (mX bk c (ah xs x) (ah xs y)).length (mX bk c' (ah xs x') (ah xs y')).length:=by
 have x0:=I.k.px.1;have x1:=I.k.px.2.1;have y0:=I.k.py.1;have y1:=I.k.py.2.1;have x0':=J.k.px.1;have x1':=J.k.px.2.1;have y0':=J.k.py.1;have y1':=J.k.py.2.1;simp only at x0 x1 y0 y1 x0' x1' y0' y1';have K:=T.later I J hb f;have K':=T.later J I hb f.symm;obtain⟨T1,e1⟩:=T.Bl I hb;obtain⟨T2,e2⟩:=T.Bl J hb;obtain⟨T12,e12⟩:=T1.Bl K hb;obtain⟨T21,e21⟩:=T2.Bl K' hb;have R:=T.rel;have Q1:=T.Sl I hb R;have Q2:=T.Sl J hb R;have R1:=Q1.rel;rw[←BR]at R1;have R2:=Q2.rel;rw[←BR]at R2;have Q12:=T1.Sl K hb R1
 have Q21:=T2.Sl K' hb R2;have S12:=K4 T I J hb f;have S21:=K4 T J I hb f.symm;obtain⟨m1,m2,m3⟩:=Ka (bk:=bk) (c:=c') (pI I x0' x1') (pI I y0' y1');obtain⟨m4,m5,m6⟩:=Ka (bk:=bk) (c:=c) (pI J x0 x1) (pI J y0 y1);have k1:Bv bk c (ah xs x) (ah xs y)=(mX bk c (ah xs x) (ah xs y)).length:=by rw[Q1.num,←qV (f:=sig),wD,qV]
 have k2:Bv bk c' (ah xs x') (ah xs y')=(mX bk c' (ah xs x') (ah xs y')).length:=by rw[Q2.num,←qV (f:=sig),wD,qV]
 have t1:=Q1.tok;have t2:=Q2.tok;have g1:=Q1.gok;have g2:=Q2.gok;have W12:=Q12.rel;have W21:=Q21.rel;rw[m1,m2,m3,e1,←Q1.num]at W12;rw[m4,m5,m6,e2,←Q2.num]at W21;rw[←BR]at W12 W21
 have hf:∀t:VP,((xs.length:Nat):Int)≤t.2.1→wires kv xs t=none:=fun t ht=>by
  unfold wires;rw[if_neg fun e=>by have:=e.2.1.2.1;omega]
 have SW:=M5 t1 t2 g1 g2 (JQ bk c _ _) (JQ bk c' _ _) hf R.wi x1 y1 x1' y1' I.k.ne J.k.ne f.a f.b f.c f.d;rw[k1,k2]at W12 W21 SW;generalize hk:(mX bk c (ah xs x) (ah xs y)).length=k at*;generalize hk':(mX bk c' (ah xs x') (ah xs y')).length=k' at*;have n1:(lu bk xs c x y).length=k:=by rw[←Q1.num,k1]
 have n2:(lu bk xs c' x' y').length=k':=by rw[←Q2.num,k2]
 have L12:(aV bk (aV bk xs c x y) c' x' y').length=xs.length+k+k':=by
  have:=congrArg List.length S12;rw[qV,qA,qA,qV,qV,qV,hk,hk']at this;exact this
 have L21:(aV bk (aV bk xs c' x' y') c x y).length=xs.length+k+k':=by
  have:=congrArg List.length S21;rw[qV,qA,qA,qV,qV,qV,hk,hk']at this;omega
 refine⟨T.len.symm,by rw[←T1.len,e1,n1],by rw[←T2.len,e2,n2],by rw[←T12.len,L12],by rw[←T21.len,L21],fun i h0 h1=> ?_⟩
 have hg:∀i,Gone (gy (gy kv (bR c' x' y')) (bR c x y)) i↔Gone (gy (gy kv (bR c x y)) (bR c' x' y')) i:=fun i=>by
  rw[jW,jW,jW,jW];constructor
  ·rintro((h|h)|h);exact .inl (.inl h);exact .inr h;exact .inl (.inr h)
  ·rintro((h|h)|h);exact .inl (.inl h);exact .inr h;exact .inl (.inr h)
 have hgl:∀i,Gone (gy (gy kv (bR c x y)) (bR c' x' y')) i→i<(xs.length:Nat):=fun i hi=>by
  rcases(jW _ _ _).1 hi with h|h
  ·rcases(jW _ _ _).1 h with h|h
   ·exact(T.dl i h).2
   ·rcases BS h with e|e<;>omega
  ·rcases BS h with e|e<;>omega
 by_cases hd:Gone (gy (gy kv (bR c x y)) (bR c' x' y')) i
 ·rw[nY (hgl i hd),(T12.hole i hd).2,(T21.hole i ((hg i).2 hd)).2];rfl
 ·have hd2:¬Gone (gy (gy kv (bR c' x' y')) (bR c x y)) (kD xs.length k k' i):=fun e=>by
   have e2:=(hg _).1 e;have e3:=hgl _ e2
   have e4:kD xs.length k k' i=i:=by
    have:=OX xs.length k k' i;rw[nY e3]at this;exact this
   rw[e4]at e2;exact hd e2
  obtain⟨r0,r1⟩:=WJ h0 h1;rw[T12.at_ h0 (by omega) hd,T21.at_ r0 (by omega) hd2]
  have hs:sig (ah (aV bk (aV bk xs c' x' y') c x y) (kD xs.length k k' i))=sig (ah (aV bk (aV bk xs c x y) c' x' y') i):=by
   have a1:=OU S12 h0 (by omega);have a2:=OU S21 r0 (by omega);have a3:=QD (A:=xs.map sig) (B:=(mX bk c (ah xs x) (ah xs y)).map sig) (C:=(mX bk c' (ah xs x') (ah xs y')).map sig) h0 (by rw[qV,qV,qV,hk,hk'];exact h1);rw[qV,qV,qV,hk,hk',a1,a2]at a3;simpa using a3
  have hp:∀s:Nat,s<(ah (aV bk (aV bk xs c x y) c' x' y') i).aN.length→ay (aV bk (aV bk xs c' x' y') c x y) (kD xs.length k k' i,(s:Int))=tu (kD xs.length k k') (ay (aV bk (aV bk xs c x y) c' x' y') (i,(s:Int))):=fun s hs2=>by
   have hs3:(ah (aV bk (aV bk xs c' x' y') c x y) (kD xs.length k k' i)).aN.length=(ah (aV bk (aV bk xs c x y) c' x' y') i).aN.length:=congrArg (fun s:vK=>s.2.2.2.2) hs;have a1:=W12.re (i,(s:Int)) ⟨⟨h0,by simp only;omega,by simp only;omega,by simp only;omega⟩,hd⟩ id;have a2:=W21.re (kD xs.length k k' i,(s:Int)) ⟨⟨r0,by simp only;omega,by simp only;omega,by simp only;omega⟩,hd2⟩ id;have a3:=SW (false,(i,(s:Int)));rw[a1]at a3;have a4:xC (kD xs.length k k') (false,(i,(s:Int)))=(false,(kD xs.length k k' i,(s:Int))):=rfl
   rw[a4,a2]at a3;have a5:((false,ay (aV bk (aV bk xs c' x' y') c x y) (kD xs.length k k' i,(s:Int))):VP)=xC (kD xs.length k k') (false,ay (aV bk (aV bk xs c x y) c' x' y') (i,(s:Int))):=by simpa using a3
   exact congrArg Prod.snd a5
  have hA:∀s:Nat,s<(ah (aV bk (aV bk xs c x y) c' x' y') i).aN.length→elt (dflt bf) (ah (aV bk (aV bk xs c' x' y') c x y) (kD xs.length k k' i)).aN (s:Nat)=tu (kD xs.length k k') (elt (dflt bf) (ah (aV bk (aV bk xs c x y) c' x' y') i).aN (s:Nat)):=hp;generalize ah (aV bk (aV bk xs c' x' y') c x y) (kD xs.length k k' i)=A at*;generalize ah (aV bk (aV bk xs c x y) c' x' y') i=B at*;obtain⟨a1,a2,a3,a4,a5⟩:=A;obtain⟨b1,b2,b3,b4,b5⟩:=B;unfold sig at hs;simp only[Prod.mk.injEq]at hs;obtain⟨s1,s2,s3,s4,s5⟩:=hs
  unfold Bp;simp only[Prod.mk.injEq];refine⟨s1,s2,s3,s4,List.ext_getElem (by rw[qV];exact s5) fun s hs1 hs2=> ?_⟩;rw[qV]at hs2;have:=hA s hs2;simp only[elt,qK,qC]at this;rw[qB hs1,qB hs2]at this;rw[List.getElem_map];exact this
end
end Go.Tr
