
/- Wires as a partial involution; two ends are glued; what two rewritings far from each other have in common. No program in it. -/
import Derived.Test.YtbdimbjclhmeoaaGreatNw
set_option linter.unusedSimpArgs false
set_option linter.unusedVariables false
namespace Go.Tr
open Go Go.RowKit
abbrev VP:=Bool×aC
abbrev Wi:=VP->Option VP
def glue(u v:VP)(σ:Wi):Wi:=fun t=>if t=u\/t=v then none else if σ t=some u then σ v else if σ t=some v then σ u else σ t
def Dt(σ:Wi):Prop:=∀p q,σ p=some q->σ q=some p/\q≠p
theorem wN{u v:VP}{σ:Wi}(h:Dt σ)(n:u≠v):Dt (glue u v σ):=by
 intro p q;unfold glue;have:=h p;have:=h q;have:=h u;have:=h v
 grind
theorem QO{u v a b:VP}{σ:Wi}(h:Dt σ)(n1:u≠v)(n2:a≠b)(n3:u≠a)(n4:u≠b)(n5:v≠a)(n6:v≠b):glue u v (glue a b σ)=glue a b (glue u v σ):=by
 funext t
 have:=h t;have:=h u;have:=h v;have:=h a;have:=h b
 unfold glue
 grind
abbrev GL:=List (VP×VP)
def iT(φ:GL)(σ:Wi):Wi:=φ.foldl (fun σ e=>glue e.1 e.2 σ) σ
theorem nO(e:VP×VP)(φ:GL)(σ:Wi):iT (e::φ) σ=iT φ (glue e.1 e.2 σ):=rfl
theorem tY(φ ψ:GL)(σ:Wi):iT (φ++ψ) σ=iT ψ (iT φ σ):=List.foldl_append ..
def GOk(φ:GL):Prop:=∀e∈φ,e.1≠e.2
def Mv(e f:VP×VP):Prop:=e.1≠f.1/\e.1≠f.2/\e.2≠f.1/\e.2≠f.2
theorem DY{e:VP×VP}(he:e.1≠e.2):∀{φ:GL} {σ:Wi},GOk φ->Dt σ->(∀f∈φ,Mv e f)->glue e.1 e.2 (iT φ σ)=iT φ (glue e.1 e.2 σ)
 |[],_,_,_,_=>rfl
 |f::φ,σ,hφ,h,ha=>by
  have hf:=hφ f (List.mem_cons_self ..);obtain⟨a1,a2,a3,a4⟩:=ha f (List.mem_cons_self ..);rw[nO,nO,DY he (fun f hf=>hφ f (List.mem_cons_of_mem _ hf)) (wN h hf) fun f hf=>ha f (List.mem_cons_of_mem _ hf),QO h he hf a1 a2 a3 a4]
theorem DZ:∀{φ ψ:GL} {σ:Wi},GOk φ->GOk ψ->Dt σ->(∀e∈φ,∀f∈ψ,Mv e f)->iT φ (iT ψ σ)=iT ψ (iT φ σ)
 |[],_,_,_,_,_,_=>rfl
 |e::φ,ψ,σ,hφ,hψ,h,ha=>by
  have he:=hφ e (List.mem_cons_self ..);rw[nO,nO,DY he hψ h (ha e (List.mem_cons_self ..)),DZ (fun f hf=>hφ f (List.mem_cons_of_mem _ hf)) hψ (wN h he) fun f hf=>ha f (List.mem_cons_of_mem _ hf)]
abbrev W0:=Bool×Nat×Int->Option (Bool×Nat×Int)
def fF(n:Int)(k:Nat)(t:VP):Prop:=n<=t.2.1/\t.2.1<n+k
instance (n:Int)(k:Nat)(t:VP):Decidable (fF n k t):=by unfold fF;exact inferInstance
def IJ(n:Int)(q:Bool×Nat×Int):VP:=(q.1,(n+q.2.1,q.2.2))
def jl(n:Int)(k:Nat)(τ:W0)(σ:Wi):Wi:=fun t=>if fF n k t then(τ (t.1,(t.2.1-n).toNat,t.2.2)).map (IJ n)else σ t
def Cc(n:Int)(k:Nat)(σ:Wi):Prop:=∀t,fF n k t->σ t=none
structure Wd(k:Nat)(τ:W0):Prop where
 lt:∀p q,τ p=some q->p.2.1<k/\q.2.1<k
 inv:∀p q,τ p=some q->τ q=some p/\q≠p
theorem Sg{n:Int}{k:Nat}{q:Bool×Nat×Int}(h:q.2.1<k):fF n k (IJ n q):=by unfold fF IJ;simp only;omega
theorem Sd{n:Int}{k:Nat}{t:VP}(h:fF n k t):IJ n (t.1,(t.2.1-n).toNat,t.2.2)=t:=by
 unfold fF at h;unfold IJ;obtain⟨a,b,c⟩:=t;simp only[Prod.mk.injEq,true_and,and_true]at*;omega
theorem OB(n:Int)(q:Bool×Nat×Int):((IJ n q).1,((IJ n q).2.1-n).toNat,(IJ n q).2.2)=q:=by
 obtain⟨a,b,c⟩:=q;unfold IJ;simp only[Prod.mk.injEq,true_and,and_true];omega
theorem kP{n:Int}{k:Nat}{τ:W0}{σ:Wi}{t:VP}(h:fF n k t):jl n k τ σ t=(τ (t.1,(t.2.1-n).toNat,t.2.2)).map (IJ n):=by unfold jl;rw[if_pos h]
theorem dQ{n:Int}{k:Nat}{τ:W0}{σ:Wi}{t:VP}(h:¬fF n k t):jl n k τ σ t=σ t:=by unfold jl;rw[if_neg h]
theorem zU{n:Int}{k:Nat}{τ:W0}{σ:Wi}(hτ:Wd k τ)(h:Dt σ)(hf:Cc n k σ):Dt (jl n k τ σ):=by
 intro p q hp;unfold jl at hp |-
 by_cases hb:fF n k p
 .rw[if_pos hb]at hp;cases hq:τ (p.1,(p.2.1-n).toNat,p.2.2)with
  |none=>rw[hq]at hp;cases hp
  |some r=>
   rw[hq]at hp;have e:IJ n r=q:=by simpa using hp
   obtain⟨i1,i2⟩:=hτ.inv _ _ hq;have l2:=(hτ.lt _ _ hq).2;subst e;rw[if_pos (Sg l2),OB,i1];refine⟨by simp only[Option.map_some];rw[Sd hb],fun e=>i2 ?_⟩;rw[<-e,OB]
 .rw[if_neg hb]at hp;obtain⟨h1,h2⟩:=h _ _ hp;rw[if_neg fun e=>by rw[hf q e]at h1;cases h1];exact⟨h1,h2⟩
theorem QL{n:Int}{k:Nat}{τ:W0}{σ:Wi}{u v:VP}(hτ:Wd k τ)(hu:¬fF n k u)(hv:¬fF n k v):jl n k τ (glue u v σ)=glue u v (jl n k τ σ):=by
 funext t
 by_cases hb:fF n k t
 .have hn:∀w,¬fF n k w->(τ (t.1,(t.2.1-n).toNat,t.2.2)).map (IJ n)≠some w:=fun w hw e=>by
   cases hq:τ (t.1,(t.2.1-n).toNat,t.2.2)with
   |none=>rw[hq]at e;cases e
   |some r=>
    rw[hq]at e;have e2:IJ n r=w:=by simpa using e
    rw[<-e2]at hw;exact hw (Sg (hτ.lt _ _ hq).2)
  rw[kP hb];unfold glue;rw[kP hb,if_neg (by rintro(e|e)<;>subst e<;>contradiction),if_neg (hn u hu),if_neg (hn v hv)]
 .rw[dQ hb];unfold glue;rw[dQ hb,dQ hu,dQ hv]
def Wo(n:Int)(k:Nat)(φ:GL):Prop:=∀e∈φ,¬fF n k e.1/\¬fF n k e.2
theorem vg{n:Int}{k:Nat}{τ:W0}(hτ:Wd k τ):∀{φ:GL} {σ:Wi},Wo n k φ->jl n k τ (iT φ σ)=iT φ (jl n k τ σ)
 |[],_,_=>rfl
 |e::φ,σ,ho=>by
  obtain⟨o1,o2⟩:=ho e (List.mem_cons_self ..);rw[nO,nO,vg hτ (φ:=φ) fun f hf=>ho f (List.mem_cons_of_mem _ hf),QL hτ o1 o2]
def yh(f:Int->Int)(t:VP):VP:=(t.1,(f t.2.1,t.2.2))
def Wt(f:Int->Int)(σ σ':Wi):Prop:=∀t,σ' (yh f t)=(σ t).map (yh f)
theorem X5{f:Int->Int}(hf:∀a b,f a=f b->a=b){s t:VP}(h:yh f s=yh f t):s=t:=by
 obtain⟨a,b,c⟩:=s;obtain⟨a',b',c'⟩:=t;unfold yh at h;simp only[Prod.mk.injEq]at h |-;exact⟨h.1,hf _ _ h.2.1,h.2.2⟩
theorem Wt.glue{f:Int->Int}(hf:∀a b,f a=f b->a=b){σ σ':Wi}(h:Wt f σ σ')(u v:VP):Wt f (glue u v σ) (glue (yh f u) (yh f v) σ'):=by
 intro t;unfold Tr.glue;have hi:∀s t,yh f s=yh f t↔s=t:=fun s t=>⟨X5 hf,fun e=>by rw[e]⟩
 rw[h t,h u,h v];simp only[hi]
 have hm:∀(o:Option VP) (w:VP),o.map (yh f)=some (yh f w)↔o=some w:=fun o w=>by
  cases o with
  |none=>simp
  |some o=>simp[hi]
 simp only[hm];split
 .rfl
 .split
  .rfl
  .split<;>rfl
def rnG(f:Int->Int)(φ:GL):GL:=φ.map fun e=>(yh f e.1,yh f e.2)
theorem Wt.iT{f:Int->Int}(hf:∀a b,f a=f b->a=b):∀{φ:GL} {σ σ':Wi},Wt f σ σ'->Wt f (iT φ σ) (iT (rnG f φ) σ')
 |[],_,_,h=>h
 |e::φ,_,_,h=>Wt.iT (φ:=φ) hf (h.glue hf e.1 e.2)
structure Rel(xs:List ak)(L X:aC->Prop)(σ:Wi):Prop where
 inn:∀p,L p->aj xs p
 sub:∀p,X p->L p
 re:∀p,L p->¬X p->σ (false,p)=some (false,ay xs p)
 st:∀p,X p->σ (false,p)=some (true,p)
 no:∀p,¬L p->σ (false,p)=none
 nv:∀p,¬X p->σ (true,p)=none
 wi:Dt σ
section
variable {xs:aS}{L X L' X':aC->Prop}{σ:Wi}{p q:aC}
theorem Rel.congr(h:Rel xs L X σ)(hL:∀r,L' r↔L r)(hX:∀r,X' r↔X r):Rel xs L' X' σ:=by
 have e1:L'=L:=funext fun r=>propext (hL r)
 have e2:X'=X:=funext fun r=>propext (hX r)
 rw[e1,e2];exact h
theorem Rel.tr(h:Rel xs L X σ)(hp:X p):σ (true,p)=some (false,p):=(h.wi _ _ (h.st p hp)).1
theorem Rel.peer(h:Rel xs L X σ)(hp:L p)(hx:¬X p):L (ay xs p)/\¬X (ay xs p)/\ay xs (ay xs p)=p/\ay xs p≠p:=by
 obtain⟨h1,h2⟩:=h.wi _ _ (h.re p hp hx);have l1:L (ay xs p):=Classical.byContradiction fun e=>by rw[h.no _ e]at h1;cases h1
 have l2:¬X (ay xs p):=fun e=>by rw[h.st _ e]at h1;cases h1
 refine⟨l1,l2,?_,fun e=>h2 (by rw[e])⟩;have h3:=h.re _ l1 l2;rw[h1]at h3;simpa using h3.symm
theorem Rel.link(h:Rel xs L X σ)(hp:X p)(hq:X q)(n:p≠q):Rel (bD xs p q) L (fun r=>X r/\r≠p/\r≠q) (glue (true,p) (true,q) σ):=by
 have ip:=h.inn p (h.sub p hp);have iq:=h.inn q (h.sub q hq);have tp:=h.tr hp;have tq:=h.tr hq;have sp:=h.st p hp;have sq:=h.st q hq;refine⟨fun r hr=>(h.inn r hr).link,fun r hr=>h.sub r hr.1,fun r hr hx=> ?_,fun r hr=> ?_,fun r hr=> ?_,fun r hr=> ?_,wN h.wi (by simpa using n)⟩
 .rw[gF ip iq (h.inn r hr)];have h1:=h.re r hr;unfold glue
  grind
 .have h1:=h.st r hr.1;unfold glue
  grind
 .have h1:=h.no r hr;unfold glue
  grind
 .have h1:=h.nv r;unfold glue;have h2:=h.wi (true,r) (true,p);have h3:=h.wi (true,r) (true,q)
  grind
theorem Rel.move(h:Rel xs L X σ)(hp:L p)(np:¬X p)(hq:X q):Rel (bY xs p q) (fun r=>L r/\r≠p) (fun r=>X r/\r≠q) (glue (false,p) (true,q) σ):=by
 have ip:=h.inn p hp;have iq:=h.inn q (h.sub q hq);have tq:=h.tr hq;have sq:=h.st q hq;obtain⟨l1,l2,e1,e2⟩:=h.peer hp np;have sp:=h.re p hp np;have sr:=h.re _ l1 l2;rw[e1]at sr;have ir:=h.inn _ l1;have npq:p≠q:=fun e=>np (e▸hq)
 unfold bY;refine⟨fun r hr=>(h.inn r hr.1).link,fun r hr=>⟨h.sub r hr.1,fun e=>np (e▸hr.1)⟩,fun r hr hx=> ?_,fun r hr=> ?_,fun r hr=> ?_,fun r hr=> ?_,wN h.wi (by simp)⟩
 .rw[gF ir iq (h.inn r hr.1)];have h1:=h.re r hr.1;have h2:=h.wi (false,r) (false,p);unfold glue
  grind
 .have h1:=h.st r hr.1;have h2:=hr.2;unfold glue
  grind
 .have h1:=h.no r;have h2:=h.wi (false,r) (false,p);have h3:=h.wi (false,r) (true,q);unfold glue
  grind
 .have h1:=h.nv r;have h2:=h.wi (true,r) (false,p);have h3:=h.wi (true,r) (true,q);unfold glue
  grind
theorem Rel.join(h:Rel xs L X σ)(hp:L p)(np:¬X p)(hq:L q)(nq:¬X q)(n:p≠q):Rel (bg xs p q) (fun r=>L r/\r≠p/\r≠q) X (glue (false,p) (false,q) σ):=by
 have ip:=h.inn p hp;have iq:=h.inn q hq;obtain⟨l1,l2,e1,e2⟩:=h.peer hp np;obtain⟨m1,m2,f1,f2⟩:=h.peer hq nq;have sp:=h.re p hp np;have sq:=h.re q hq nq;have sr:=h.re _ l1 l2;have ss:=h.re _ m1 m2;rw[e1]at sr;rw[f1]at ss;have ir:=h.inn _ l1;have is_:=h.inn _ m1
 have hj:bg xs p q=if ay xs p=q then xs else bD xs (ay xs p) (ay xs q):=by
  unfold bg
  by_cases e:ay xs p=q
  .rw[if_pos e,e];simp
  .rw[if_neg e]
   have:((ay xs p).1==q.1&&(ay xs p).2==q.2)=false:=by
    cases hh:((ay xs p).1==q.1&&(ay xs p).2==q.2)with
    |false=>rfl
    |true=>exact absurd (Prod.ext (by simp at hh;exact hh.1) (by simp at hh;exact hh.2)) e
   rw[this];rfl
 refine⟨fun r hr=>(h.inn r hr.1).join,fun r hr=>⟨h.sub r hr,fun e=>np (e▸hr),fun e=>nq (e▸hr)⟩,fun r hr hx=> ?_,fun r hr=> ?_,fun r hr=> ?_,fun r hr=> ?_,wN h.wi (by simpa using n)⟩
 .rw[hj];have h1:=h.re r hr.1 hx;have h2:=h.wi (false,r) (false,p);have h3:=h.wi (false,r) (false,q);have h4:=gF ir is_ (h.inn r hr.1);unfold glue
  grind
 .have h1:=h.st r hr;have h2:r≠p:=fun e=>np (e▸hr)
  have h3:r≠q:=fun e=>nq (e▸hr)
  unfold glue
  grind
 .have h1:=h.no r;have h2:=h.wi (false,r) (false,p);have h3:=h.wi (false,r) (false,q);unfold glue
  grind
 .have h1:=h.nv r hr;unfold glue
  grind
theorem Rel.cut(h:Rel xs L X σ)(hp:L p)(np:¬X p)(e:ay xs p=q):Rel xs (fun r=>L r/\r≠p/\r≠q) X (glue (false,p) (false,q) σ):=by
 obtain⟨l1,l2,e1,e2⟩:=h.peer hp np;rw[e]at l1 l2 e1 e2;have k:=h.join hp np l1 l2 (Ne.symm e2);have hj:bg xs p q=xs:=by unfold bg;rw[e];simp
 rwa[hj]at k
end
end Go.Tr
namespace Go.Tr
open Go Go.RowKit
def stubs(ls:List Nat):W0:=fun q=>if 0<=q.2.2/\q.2.2<ls.getD q.2.1 0 then some (!q.1,q.2)else none
theorem FK(ls:dF):Wd ls.length (stubs ls):=by
 refine⟨fun p q h=> ?_,fun p q h=> ?_⟩
 .unfold stubs at h;split at h
  .rename_i hp;have e:(!p.1,p.2)=q:=by simpa using h
   have hl:p.2.1<ls.length:=by
    rcases Nat.lt_or_ge p.2.1 ls.length with k|k
    .exact k
    .rw[qC,List.getElem?_eq_none k]at hp;simp only[Option.getD_none]at hp;omega
   subst e;exact⟨hl,hl⟩
  .cases h
 .unfold stubs at h |-;split at h
  .rename_i hp;have e:(!p.1,p.2)=q:=by simpa using h
   subst e;rw[if_pos hp];refine⟨by simp,fun e=> ?_⟩;have:=congrArg Prod.fst e;simp at this
  .cases h
theorem RH(n:Int)(σ:Wi):jl n 0 (stubs []) σ=σ:=by
 funext t
 rw[dQ (by unfold fF;omega)]
theorem N9{n:Int}{ls:dF}{m:Nat}{σ:Wi}:jl (n+ls.length) 1 (stubs [m]) (jl n ls.length (stubs ls) σ)=jl n (ls++[m]).length (stubs (ls++[m])) σ:=by
 funext t
 have hl:(ls++[m]).length=ls.length+1:=by simp
 by_cases h1:fF (n+ls.length) 1 t
 .have h2:fF n (ls++[m]).length t:=by unfold fF at*;omega
  rw[kP h1,kP h2];have e1:t.2.1=n+ls.length:=by unfold fF at h1;omega
  have e2:(t.2.1-(n+ls.length)).toNat=0:=by omega
  have e3:(t.2.1-n).toNat=ls.length:=by omega
  rw[e2,e3];unfold stubs;simp only[qC,qL (Nat.le_refl _),Nat.sub_self,List.getElem?_cons_zero,Option.getD_some];split
  .simp only[Option.map_some];unfold IJ;simp
  .rfl
 .rw[dQ h1]
  by_cases h2:fF n ls.length t
  .have h3:fF n (ls++[m]).length t:=by unfold fF at*;omega
   rw[kP h2,kP h3];have e3:(t.2.1-n).toNat<ls.length:=by unfold fF at h2;omega
   unfold stubs;simp only[qC,qM e3]
  .rw[dQ h2,dQ (by unfold fF at*;omega)]
theorem Rel.add{xs:aS}{L X:aC->Prop}{σ:Wi}(h:Rel xs L X σ)(k l v:Int)(d:List Int)(m:Nat):
  Rel (xs++[bf k l v d m]) (fun r=>L r\/(r.1=(xs.length:Nat)/\0<=r.2/\r.2<m)) (fun r=>X r\/(r.1=(xs.length:Nat)/\0<=r.2/\r.2<m)) (jl (xs.length:Nat) 1 (stubs [m]) σ)/\Cc (xs.length:Nat) 1 σ:=by
 have hL:∀r,L r->r.1<(xs.length:Nat):=fun r hr=>(h.inn r hr).2.1
 have hF:Cc (xs.length:Nat) 1 σ:=by
  rintro⟨b,p⟩ ht;unfold fF at ht;simp only at ht;cases b with
  |false=>exact h.no p fun e=>by have:=hL p e;omega
  |true=>exact h.nv p fun e=>by have:=hL p (h.sub p e);omega
 have hin:∀(b:Bool) (p:aC),p.1=(xs.length:Nat)->jl (xs.length:Nat) 1 (stubs [m]) σ (b,p)=if 0<=p.2/\p.2<(m:Nat)then some (!b,p)else none:=fun b p hp=>by
  rw[kP (by unfold fF;simp only;omega)];unfold stubs;simp only;rw[show(p.1-(xs.length:Nat)).toNat=0 by omega];simp only[qC,List.getElem?_cons_zero,Option.getD_some];split
  .simp only[Option.map_some];unfold IJ;obtain⟨p1,p2⟩:=p;simp only at hp;subst hp;simp
  .rfl
 have hout:∀(b:Bool) (p:aC),p.1≠(xs.length:Nat)->jl (xs.length:Nat) 1 (stubs [m]) σ (b,p)=σ (b,p):=fun b p hp=>dQ (by unfold fF;simp only;omega)
 refine⟨⟨fun r hr=> ?_,fun r hr=> ?_,fun r hr hx=> ?_,fun r hr=> ?_,fun r hr=> ?_,fun r hr=> ?_,zU (FK [m]) h.wi hF⟩,hF⟩
 .rcases hr with hr|⟨e,h0,h1⟩
  .exact(h.inn r hr).app
  .have:=aj.new (xs:=xs) (k:=k) (l:=l) (v:=v) (d:=d) (n:=m) h0 h1;rw[<-e]at this;exact this
 .rcases hr with hr|hr
  .exact .inl (h.sub r hr)
  .exact .inr hr
 .have hr':L r:=by
   rcases hr with hr|hr
   .exact hr
   .exact absurd (.inr hr) hx
  have hl:=hL r hr';have i:=h.inn r hr';rw[hout _ _ (by omega),h.re r hr' fun e=>hx (.inl e),jH (by have:=i.1;omega)]
 .rcases hr with hr|⟨e,h0,h1⟩
  .rw[hout _ _ (by have:=hL r (h.sub r hr);omega),h.st r hr]
  .rw[hin _ _ e,if_pos ⟨h0,h1⟩];rfl
 .by_cases e:r.1=(xs.length:Nat)
  .rw[hin _ _ e,if_neg fun k=>hr (.inr ⟨e,k.1,k.2⟩)]
  .rw[hout _ _ e];exact h.no r fun k=>hr (.inl k)
 .by_cases e:r.1=(xs.length:Nat)
  .rw[hin _ _ e,if_neg fun k=>hr (.inr ⟨e,k.1,k.2⟩)]
  .rw[hout _ _ e];exact h.nv r fun k=>hr (.inl k)
inductive SP where
 |x (i:Int)
 |y (i:Int)
 |s (j:Nat) (i:Int)
def SP.v(n x y:Int):SP->VP
 | .x i=>(false,(x,i))
 | .y i=>(false,(y,i))
 | .s j i=>(true,(n+j,i))
def SP.ok(m:Nat):SP->Prop
 | .s j _=>j<m
 |_=>True
abbrev SG:=List (SP×SP)
def SG.g(n x y:Int)(φ:SG):GL:=φ.map fun e=>(e.1.v n x y,e.2.v n x y)
def SG.ok(m:Nat)(φ:SG):Prop:=∀e∈φ,e.1.ok m/\e.2.ok m
theorem SP.ok.le{m m':Nat}(h:m<=m'):∀{p:SP},p.ok m->p.ok m'
 | .x _,_=>trivial
 | .y _,_=>trivial
 | .s _ _,k=>qW k h
theorem SG.ok.le{m m':Nat}{φ:SG}(k:φ.ok m)(h:m<=m'):φ.ok m':=fun e he=>⟨(k e he).1.le h,(k e he).2.le h⟩
theorem SG.ok.snoc{m:Nat}{φ:SG}{a b:SP}(k:φ.ok m)(ha:a.ok m)(hb:b.ok m):SG.ok m (φ++[(a,b)]):=fun e he=>by
 rcases List.mem_append.1 he with h|h
 .exact k e h
 .rw[qX]at h;rw[h];exact⟨ha,hb⟩
theorem SG.DX(n x y:Int)(φ:SG)(a b:SP):SG.g n x y (φ++[(a,b)])=SG.g n x y φ++[(a.v n x y,b.v n x y)]:=by unfold SG.g;rw[qZ];rfl
theorem SG.out{n:Nat}{x y:Int}{m k:Nat}{φ:SG}(h:φ.ok m)(hx:x<(n:Nat))(hy:y<(n:Nat)):Wo ((n:Int)+m) k (SG.g n x y φ):=fun e he=>by
 obtain⟨f,hf,rfl⟩:=List.mem_map.1 he
 have key:∀p:SP,p.ok m->¬fF ((n:Int)+m) k (p.v n x y):=fun p hp=>by
  unfold fF;cases p with
  |x i=>show ¬((n:Int)+m<=x/\_);omega
  |y i=>show ¬((n:Int)+m<=y/\_);omega
  |s j i=>have hj:j<m:=hp;show ¬((n:Int)+m<=(n:Int)+j/\_);omega
 exact⟨key _ (h f hf).1,key _ (h f hf).2⟩
structure tF(σ:Wi)(n:Nat)(x y:Int)(xs:List ak)(ls:List Nat)(φ:SG)(L X:aC->Prop):Prop where
 rel:Rel xs L X (iT (SG.g n x y φ) (jl n ls.length (stubs ls) σ))
 len:xs.length=n+ls.length
 ok:φ.ok ls.length
 xl:x<(n:Nat)
 yl:y<(n:Nat)
section
variable {σ:Wi}{n:Nat}{x y:Int}{xs:aS}{ls:dF}{φ:SG}{L X L' X':aC->Prop}
theorem tF.start(h:Rel xs L X σ)(hx:x<(xs.length:Nat))(hy:y<(xs.length:Nat)):tF σ xs.length x y xs [] [] L X:=
 ⟨by show Rel xs L X (jl _ 0 (stubs []) σ);rw[RH];exact h,rfl,(fun e he=>by cases he),hx,hy⟩
theorem tF.congr(h:tF σ n x y xs ls φ L X)(hL:∀r,L' r↔L r)(hX:∀r,X' r↔X r):tF σ n x y xs ls φ L' X':=⟨h.rel.congr hL hX,h.len,h.ok,h.xl,h.yl⟩
theorem tF.add(h:tF σ n x y xs ls φ L X)(k l v:Int)(d:List Int)(m:Nat):
  tF σ n x y (xs++[bf k l v d m]) (ls++[m]) φ (fun r=>L r\/(r.1=(n+ls.length:Nat)/\0<=r.2/\r.2<m)) (fun r=>X r\/(r.1=(n+ls.length:Nat)/\0<=r.2/\r.2<m)):=by
 obtain⟨k1,k2⟩:=h.rel.add k l v d m;rw[h.len]at k1;have e:((n+ls.length:Nat):Int)=(n:Int)+(ls.length:Nat):=by omega
 refine⟨?_,by simp[h.len];omega,h.ok.le (by simp),h.xl,h.yl⟩;have hc:=vg (n:=(n:Int)+ls.length) (k:=1) (FK [m]) (φ:=SG.g n x y φ) (σ:=jl n ls.length (stubs ls) σ) (SG.out h.ok h.xl h.yl);rw[<-N9,<-hc,<-e];exact k1
theorem tF.Uh(h:tF σ n x y xs ls φ L X){j j':Nat}{i i':Int}{p q:aC}(ep:p=((n:Int)+j,i))(eq:q=((n:Int)+j',i'))(hj:j<ls.length)(hj':j'<ls.length)(hp:X p)(hq:X q)(ne:p≠q):
  tF σ n x y (bD xs p q) ls (φ++[(.s j i,.s j' i')]) L (fun r=>X r/\r≠p/\r≠q):=by
 have k:=h.rel.link hp hq ne;subst ep;subst eq;refine⟨?_,by rw[jd];exact h.len,h.ok.snoc hj hj',h.xl,h.yl⟩;rw[SG.DX,tY];exact k
theorem tF.Uo(h:tF σ n x y xs ls φ L X){j:Nat}{i i':Int}{q:aC}(eq:q=((n:Int)+j,i'))(hj:j<ls.length)(hp:L (x,i))(np:¬X (x,i))(hq:X q):
  tF σ n x y (bY xs (x,i) q) ls (φ++[(.x i,.s j i')]) (fun r=>L r/\r≠(x,i)) (fun r=>X r/\r≠q):=by
 have k:=h.rel.move hp np hq;subst eq;refine⟨?_,by rw[gU];exact h.len,h.ok.snoc trivial hj,h.xl,h.yl⟩;rw[SG.DX,tY];exact k
theorem tF.Ho(h:tF σ n x y xs ls φ L X){j:Nat}{i i':Int}{q:aC}(eq:q=((n:Int)+j,i'))(hj:j<ls.length)(hp:L (y,i))(np:¬X (y,i))(hq:X q):
  tF σ n x y (bY xs (y,i) q) ls (φ++[(.y i,.s j i')]) (fun r=>L r/\r≠(y,i)) (fun r=>X r/\r≠q):=by
 have k:=h.rel.move hp np hq;subst eq;refine⟨?_,by rw[gU];exact h.len,h.ok.snoc trivial hj,h.xl,h.yl⟩;rw[SG.DX,tY];exact k
theorem tF.join(h:tF σ n x y xs ls φ L X){i i':Int}(hp:L (x,i))(np:¬X (x,i))(hq:L (y,i'))(nq:¬X (y,i'))(ne:x≠y):
  tF σ n x y (bg xs (x,i) (y,i')) ls (φ++[(.x i,.y i')]) (fun r=>L r/\r≠(x,i)/\r≠(y,i')) X:=by
 have k:=h.rel.join hp np hq nq (fun e=>ne (congrArg Prod.fst e));refine⟨?_,by rw[uf];exact h.len,h.ok.snoc trivial trivial,h.xl,h.yl⟩;rw[SG.DX,tY];exact k
theorem tF.cut(h:tF σ n x y xs ls φ L X)(hp:L (x,0))(np:¬X (x,0))(e:ay xs (x,0)=(y,0)):
  tF σ n x y xs ls (φ++[(.x 0,.y 0)]) (fun r=>L r/\r≠(x,0)/\r≠(y,0)) X:=by
 have k:=h.rel.cut hp np e;refine⟨?_,h.len,h.ok.snoc trivial trivial,h.xl,h.yl⟩;rw[SG.DX,tY];exact k
end
end Go.Tr
namespace Go.Tr
open Go Go.RowKit
abbrev yx:aC->Prop:=fun _=>False
def yQ(L:aC->Prop)(n:Nat)(ls:List Nat)(x y:Int):aC->Prop:=fun r=>(L r/\r.1≠x/\r.1≠y)\/((n:Int)<=r.1/\r.1<((n+ls.length:Nat):Int)/\0<=r.2/\r.2<((ls.getD (r.1-n).toNat 0:Nat):Int))
theorem Zb3(c:Int)(r:aC):yx r↔(yx r\/(r.1=c/\0<=r.2/\r.2<((1:Nat):Int)))/\r≠(c,0):=by
 constructor
 .exact False.elim
 .rintro⟨e|⟨e1,e2,e3⟩,e4⟩
  .exact e
  .exact e4 (Prod.ext e1 (by simp only;omega))
def PX:SG:=[(.x 0,.y 0),(.x 1,.y 1),(.x 2,.y 2)]
def Lv(k:Nat):SG:=[(.x 0,.y 0)]++(List.range k).map fun i:Nat=>(.y ((i:Int)+1),.s i 0)
theorem Ro(k:Nat):Lv (k+1)=Lv k++[(.y ((k:Int)+1),.s k 0)]:=by unfold Lv;rw[List.range_succ,qZ,qF];rfl
section
variable {σ:Wi}{n:Nat}{x y:Int}{xs:aS}{L:aC->Prop}
structure tJ(L:aC->Prop)(xs:List ak)(n:Nat)(x y:Int)(kx ky:Nat):Prop where
 ne:x≠y
 x0:0<=x/\x<(n:Nat)
 y0:0<=y/\y<(n:Nat)
 len:xs.length=n
 px:∀i:Int,L (x,i)↔0<=i/\i<(kx:Nat)
 py:∀i:Int,L (y,i)↔0<=i/\i<(ky:Nat)
 kx0:0<kx
 lt:∀r,L r->r.1<(n:Nat)
 w:ay xs (x,0)=(y,0)
theorem BP(h:Rel xs L yx σ){kx ky:Nat}(k:tJ L xs n x y kx ky):tF σ n x y xs [] [(.x 0,.y 0)] (fun r=>L r/\r≠(x,0)/\r≠(y,0)) yx:=by
 have e:=k.len;subst e;exact(tF.start h k.x0.2 k.y0.2).cut ((k.px 0).2 ⟨Int.le_refl 0,by have:=k.kx0;omega⟩) id k.w
theorem ZbO(h:Rel xs L yx σ)(k:tJ L xs n x y 3 3):tF σ n x y (bg (bg xs (x,1) (y,1)) (x,2) (y,2)) [] PX (yQ L n [] x y) yx:=by
 have h0:=BP h k;have ne:=k.ne;have x1:L (x,1):=(k.px 1).2 (by omega);have x2:L (x,2):=(k.px 2).2 (by omega);have y1:L (y,1):=(k.py 1).2 (by omega);have y2:L (y,2):=(k.py 2).2 (by omega);have h1:=h0.join (i:=1) (i':=1) ⟨x1,by simp,by simp⟩ id ⟨y1,by simp,by simp⟩ id ne;have h2:=h1.join (i:=2) (i':=2) ⟨⟨x2,by simp,by simp⟩,by simp,by simp⟩ id ⟨⟨y2,by simp,by simp⟩,by simp,by simp⟩ id ne;refine h2.congr (fun r=> ?_) fun _=>Iff.rfl
 have qx:=k.px r.2;have qy:=k.py r.2;obtain⟨a,b⟩:=r;unfold yQ;simp only[qR,Nat.add_zero,ne_eq,Prod.mk.injEq]at*;constructor
 .rintro(⟨l,e1,e2⟩|e)
  .grind
  .omega
 .rintro⟨⟨⟨l,e1,e2⟩,e3,e4⟩,e5,e6⟩;refine .inl ⟨l,fun e=> ?_,fun e=> ?_⟩
  .subst e;have:=qx.1 l;omega
  .subst e;have:=qy.1 l;omega
theorem rs4(h:Rel xs L yx σ){ky:Nat}(k:tJ L xs n x y 1 ky):∀m:Nat,m+1<=ky->tF σ n x y (sG y xs m) (List.replicate m 1) (Lv m) (fun r=>(L r/\r≠(x,0)/\¬(r.1=y/\r.2<=(m:Nat)))\/((n:Int)<=r.1/\r.1<((n+m:Nat):Int)/\r.2=0)) yx
 |0,hm=>(BP h k).congr (fun r=>by
   have qy:=k.py r.2;obtain⟨a,b⟩:=r;simp only[Nat.add_zero,ne_eq,Prod.mk.injEq]at*;constructor
   .rintro(⟨l,e1,e2⟩|e)
    .exact⟨l,e1,fun e=>e2 ⟨e.1,by omega⟩⟩
    .omega
   .rintro⟨l,e1,e2⟩;refine .inl ⟨l,e1,fun e=>e2 ⟨e.1,?_⟩⟩;obtain⟨e3,e4⟩:=e;subst e3;have:=qy.1 l;omega) fun _=>Iff.rfl
 |m+1,hm=>by
  have ih:=rs4 h k m (by omega);have hl:(List.replicate m 1).length=m:=List.length_replicate ..;have h1:=ih.add 5 0 0 [] 1;have hlen:=k.len;have hy:=(k.py ((m:Int)+1)).2 (by omega);have ne:=k.ne;have hy0:=k.y0;rw[hl]at h1;have h2:=h1.Ho (j:=m) (i:=(m:Int)+1) (i':=0) (q:=(((n+m:Nat):Int),0)) (Prod.ext (by show((n+m:Nat):Int)=(n:Int)+m;omega) rfl) (by simp) (.inl (.inl ⟨hy,(by simp only[ne_eq,Prod.mk.injEq];omega),by simp only;omega⟩)) (by rintro(e|⟨e, -⟩);exact e;simp only at e;omega) (.inr ⟨rfl,Int.le_refl 0,by simp⟩)
  unfold sG;rw[hlen,Ro,List.replicate_succ',show((m+1:Nat):Int)=(m:Int)+1 by omega];refine h2.congr (fun r=> ?_) fun r=> ?_
  .have qy:=k.py r.2;have ql:=k.lt r;obtain⟨a,b⟩:=r;simp only[ne_eq,Prod.mk.injEq]at*;constructor
   .rintro(⟨l,e1,e2⟩|⟨e1,e2,e3⟩)
    .exact⟨.inl (.inl ⟨l,e1,by omega⟩),by omega⟩
    .refine⟨?_,by omega⟩
     by_cases e:a=((n+m:Nat):Int)
     .exact .inr ⟨e,by omega,by omega⟩
     .exact .inl (.inr ⟨e1,by omega,e3⟩)
   .rintro⟨(⟨l,e1,e2⟩|⟨e1,e2,e3⟩)|⟨e1,e2,e3⟩,e4⟩
    .exact .inl ⟨l,e1,by omega⟩
    .exact .inr ⟨e1,by omega,e3⟩
    .exact .inr ⟨by omega,by omega,by omega⟩
  .exact Zb3 _ r
end
end Go.Tr
namespace Go.Tr
open Go Go.RowKit
def ER(k:Nat):SG:=[(.x 0,.y 0)]++(List.range k).flatMap fun i:Nat=>[(.s (2+i) 1,.s 0 ((i+1:Nat):Int)),(.s (2+i) 2,.s 1 ((i+1:Nat):Int))]
theorem Nw(k:Nat):ER (k+1)=ER k++[(.s (2+k) 1,.s 0 ((k+1:Nat):Int))]++[(.s (2+k) 2,.s 1 ((k+1:Nat):Int))]:=by unfold ER;rw[List.range_succ,List.flatMap_append];simp
def Gj(k m:Nat):SG:=ER k++[(.x 1,.s 0 0)]++[(.x 2,.s 1 0)]++(List.range m).map fun i:Nat=>(.y ((i:Int)+1),.s (2+i) 0)
theorem Rn(k m:Nat):Gj k (m+1)=Gj k m++[(.y ((m:Int)+1),.s (2+m) 0)]:=by unfold Gj;rw[List.range_succ,qZ];simp
section
variable {σ:Wi}{n:Nat}{x y:Int}{xs:aS}{L:aC->Prop}
def L3(L:aC->Prop)(n ky:Nat)(x y:Int)(k:Nat):aC->Prop:=fun r=>(L r/\r≠(x,0)/\r≠(y,0))\/((r.1=(n:Int)\/r.1=(n:Int)+1)/\0<=r.2/\r.2<(ky:Int))\/((n:Int)+2<=r.1/\r.1<(n:Int)+2+k/\0<=r.2/\r.2<3)
def X3(n ky:Nat)(k:Nat):aC->Prop:=fun r=>((r.1=(n:Int)\/r.1=(n:Int)+1)/\0<=r.2/\r.2<(ky:Int)/\(r.2<=0\/(k:Int)<r.2))\/((n:Int)+2<=r.1/\r.1<(n:Int)+2+k/\r.2=0)
theorem Qd(h:Rel xs L yx σ){ky:Nat}(k:tJ L xs n x y 3 ky)(hky:(ah xs y).2.2.2.2.length=ky)(hy1:1<=ky):∀m:Nat,m+1<=ky->
  tF σ n x y (bV x ((n:Nat):Int) ((n+1:Nat):Int) (dup2 xs y) m) ([ky,ky]++List.replicate m 3) (ER m) (L3 L n ky x y m) (X3 n ky m)
 |0,hm=>by
  have h1:=(BP h k).add (ah xs y).1 (ah xs y).2.1 (ah xs y).2.2.1 (ah xs y).2.2.2.1 ky;have h2:=h1.add (ah xs y).1 (ah xs y).2.1 (ah xs y).2.2.1 (ah xs y).2.2.2.1 ky
  have e:bV x ((n:Nat):Int) ((n+1:Nat):Int) (dup2 xs y) 0=(xs++[bf (ah xs y).1 (ah xs y).2.1 (ah xs y).2.2.1 (ah xs y).2.2.2.1 ky])++[bf (ah xs y).1 (ah xs y).2.1 (ah xs y).2.2.1 (ah xs y).2.2.2.1 ky]:=by
   show dup2 xs y=_;unfold dup2 lD;rw[hky]
  rw[e];refine h2.congr (fun r=> ?_) fun r=> ?_
  .unfold L3;obtain⟨a,b⟩:=r;simp only[ne_eq,Prod.mk.injEq,List.nil_append,qR,qI]at*
   grind
  .unfold X3;obtain⟨a,b⟩:=r;simp only[ne_eq,Prod.mk.injEq,List.nil_append,qR,qI]at*
   grind
 |m+1,hm=>by
  have ih:=Qd h k hky hy1 m (by omega);have hl:([ky,ky]++List.replicate m 3).length=2+m:=by simp;omega
  have hlen:(bV x ((n:Nat):Int) ((n+1:Nat):Int) (dup2 xs y) m).length=n+(2+m):=by rw[ih.len,hl]
  have h1:=ih.add 4 (ah (bV x ((n:Nat):Int) ((n+1:Nat):Int) (dup2 xs y) m) x).2.1 0 [] 3;rw[hl]at h1;have hl1:([ky,ky]++List.replicate m 3++[3]).length=3+m:=by simp;omega
  have h2:=h1.Uh (j:=2+m) (j':=0) (i:=1) (i':=((m+1:Nat):Int)) (p:=(((n+(2+m):Nat):Int),1)) (q:=(((n:Nat):Int),((m+1:Nat):Int))) (Prod.ext (by show((n+(2+m):Nat):Int)=(n:Int)+((2+m:Nat):Int);omega) rfl) (Prod.ext (by show((n:Nat):Int)=(n:Int)+((0:Nat):Int);omega) rfl) (by rw[hl1];omega) (by rw[hl1];omega) (.inr ⟨rfl,by simp,by simp⟩) (.inl (.inl ⟨.inl rfl,by simp only;omega,by simp only;omega,by simp only;omega⟩)) (by simp only[ne_eq,Prod.mk.injEq];omega);have h3:=h2.Uh (j:=2+m) (j':=1) (i:=2) (i':=((m+1:Nat):Int)) (p:=(((n+(2+m):Nat):Int),2)) (q:=(((n+1:Nat):Int),((m+1:Nat):Int))) (Prod.ext (by show((n+(2+m):Nat):Int)=(n:Int)+((2+m:Nat):Int);omega) rfl) (Prod.ext (by show((n+1:Nat):Int)=(n:Int)+((1:Nat):Int);omega) rfl) (by rw[hl1];omega) (by rw[hl1];omega) ⟨.inr ⟨rfl,by simp,by simp⟩,by simp,by simp only[ne_eq,Prod.mk.injEq];omega⟩ ⟨.inl (.inl ⟨.inr (by simp only;omega),by simp only;omega,by simp only;omega,by simp only;omega⟩),by simp only[ne_eq,Prod.mk.injEq];omega,by simp only[ne_eq,Prod.mk.injEq];omega⟩ (by simp only[ne_eq,Prod.mk.injEq];omega)
  unfold bV mV;rw[hlen,Nw,List.replicate_succ',<-qF];refine h3.congr (fun r=> ?_) fun r=> ?_
  .unfold L3;obtain⟨a,b⟩:=r;simp only[ne_eq,Prod.mk.injEq]at*
   grind
  .unfold X3;obtain⟨a,b⟩:=r;simp only[ne_eq,Prod.mk.injEq]at*
   grind
theorem rs3(h:Rel xs L yx σ){ky:Nat}(k:tJ L xs n x y 3 ky)(hky:(ah xs y).2.2.2.2.length=ky)(hy1:1<=ky):∀m:Nat,m+1<=ky->
  tF σ n x y (cB y (n+2) (mM xs x y) m) ([ky,ky]++List.replicate (ky-1) 3) (Gj (ky-1) m) (fun r=>L3 L n ky x y (ky-1) r/\r≠(x,1)/\r≠(x,2)/\¬(r.1=y/\1<=r.2/\r.2<=(m:Nat))) (fun r=>(n:Int)+2+m<=r.1/\r.1<(n:Int)+2+((ky-1:Nat):Int)/\r.2=0)
 |0,hm=>by
  have h0:=Qd h k hky hy1 (ky-1) (by omega);have ne:=k.ne;have x1:L (x,1):=(k.px 1).2 (by omega);have x2:L (x,2):=(k.px 2).2 (by omega);have kx:=k.x0;have hlt:∀{i:Int},¬X3 n ky (ky-1) (x,i):=fun {i} e=>by unfold X3 at e;simp only at e;omega
  have hl:([ky,ky]++List.replicate (ky-1) 3).length=2+(ky-1):=by simp;omega
  have h1:=h0.Uo (j:=0) (i:=1) (i':=0) (q:=(((n:Nat):Int),0)) (Prod.ext (by show((n:Nat):Int)=(n:Int)+((0:Nat):Int);omega) rfl) (by rw[hl];omega) (.inl ⟨x1,by simp,by simp⟩) hlt (.inl ⟨.inl rfl,by simp only;omega,by simp only;omega,.inl (by simp)⟩);have h2:=h1.Uo (j:=1) (i:=2) (i':=0) (q:=(((n+1:Nat):Int),0)) (Prod.ext (by show((n+1:Nat):Int)=(n:Int)+((1:Nat):Int);omega) rfl) (by rw[hl];omega) ⟨.inl ⟨x2,by simp,by simp⟩,by simp⟩ (fun e=>hlt e.1) ⟨.inl ⟨.inr (by simp only;omega),by simp only;omega,by simp only;omega,.inl (by simp)⟩,by simp only[ne_eq,Prod.mk.injEq];omega⟩
  have e:cB y (n+2) (mM xs x y) 0=bY (bY (bV x ((n:Nat):Int) ((n+1:Nat):Int) (dup2 xs y) (ky-1)) (x,1) ((n:Nat),0)) (x,2) ((n+1:Nat),0):=by
   show mM xs x y=_;unfold mM dup3;rw[hky,k.len]
  rw[e];have e2:Gj (ky-1) 0=ER (ky-1)++[(.x 1,.s 0 0)]++[(.x 2,.s 1 0)]:=by unfold Gj;simp
  rw[e2];have ql:=k.lt;have y0:=k.y0;refine h2.congr (fun r=> ?_) fun r=> ?_
  .obtain⟨a,b⟩:=r;simp only[ne_eq,Prod.mk.injEq]at*
   grind
  .unfold X3;obtain⟨a,b⟩:=r;simp only[ne_eq,Prod.mk.injEq]at*
   grind
 |m+1,hm=>by
  have ih:=rs3 h k hky hy1 m (by omega);have hl:([ky,ky]++List.replicate (ky-1) 3).length=2+(ky-1):=by simp;omega
  have ym:L (y,(m:Int)+1):=(k.py _).2 (by omega);have ne:=k.ne;have y0:=k.y0;have h1:=ih.Ho (j:=2+m) (i:=((m:Nat):Int)+1) (i':=0) (q:=(((n+2+m:Nat):Int),0)) (Prod.ext (by show((n+2+m:Nat):Int)=(n:Int)+((2+m:Nat):Int);omega) rfl) (by rw[hl];omega) ⟨.inl ⟨ym,by simp only[ne_eq,Prod.mk.injEq];omega,by simp only[ne_eq,Prod.mk.injEq];omega⟩,by simp only[ne_eq,Prod.mk.injEq];omega,by simp only[ne_eq,Prod.mk.injEq];omega,by simp only;omega⟩ (fun e=>by simp only at e;omega) ⟨by simp only;omega,by simp only;omega,rfl⟩
  unfold cB;rw[Rn];refine h1.congr (fun r=> ?_) fun r=> ?_
  .obtain⟨a,b⟩:=r;simp only[ne_eq,Prod.mk.injEq]at*
   grind
  .obtain⟨a,b⟩:=r;simp only[ne_eq,Prod.mk.injEq]at*
   grind
end
end Go.Tr
namespace Go.Tr
open Go Go.RowKit
section
variable {σ:Wi}{n:Nat}{x y:Int}{xs:aS}{L:aC->Prop}
def ES:SG:=[(.x 0,.y 0)]++[(.y 1,.s 0 0)]++[(.y 2,.s 0 1)]
def xg:SG:=[(.x 0,.y 0)]++[(.y 1,.s 0 0)]
theorem VB(h:Rel xs L yx σ)(k:tJ L xs n x y 1 2)(a b c:Int)(d:List Int):tF σ n x y (bY (xs++[bf a b c d 1]) (y,1) ((n:Nat),0)) [1] xg (yQ L n [1] x y) yx:=by
 have h1:=(BP h k).add a b c d 1;have ne:=k.ne;have y1:L (y,1):=(k.py 1).2 (by omega);have y0:=k.y0;have h2:=h1.Ho (j:=0) (i:=1) (i':=0) (q:=(((n:Nat):Int),0)) (Prod.ext (by show((n:Nat):Int)=(n:Int)+((0:Nat):Int);omega) rfl) (by simp) (.inl ⟨y1,by simp,by simp⟩) (by rintro(e|⟨e, -⟩);exact e;simp only[qR,Nat.add_zero]at e;omega) (.inr ⟨by simp,by simp,by simp⟩);refine h2.congr (fun r=> ?_) fun r=> ?_
 .have qx:=k.px r.2;have qy:=k.py r.2;have ql:=k.lt r;unfold yQ;obtain⟨a,b⟩:=r;have hg:∀z:Int,(n:Int)<=z->z<(n:Int)+1->([1]:List Nat).getD (z-n).toNat 0=1:=fun z h0 h1=>by rw[show(z-n).toNat=0 by omega];rfl
  have:=hg a;simp only[ne_eq,Prod.mk.injEq,qR,qI]at*
  grind
 .obtain⟨a,b⟩:=r;simp only[ne_eq,Prod.mk.injEq,qR]at*
  grind
theorem Zac(h:Rel xs L yx σ)(k:tJ L xs n x y 1 3)(a b c:Int)(d:List Int):tF σ n x y (bY (bY (xs++[bf a b c d 2]) (y,1) ((n:Nat),0)) (y,2) ((n:Nat),1)) [2] ES (yQ L n [2] x y) yx:=by
 have h1:=(BP h k).add a b c d 2;have ne:=k.ne;have y1:L (y,1):=(k.py 1).2 (by omega);have y2:L (y,2):=(k.py 2).2 (by omega);have y0:=k.y0;have nX:∀{i:Int},¬(yx (y,i)\/(((y,i):aC).1=((n+([]:List Nat).length:Nat):Int)/\0<=((y,i):aC).2/\((y,i):aC).2<((2:Nat):Int))):=fun {i}=>by rintro(e|⟨e, -⟩);exact e;simp only[qR,Nat.add_zero]at e;omega
 have h2:=h1.Ho (j:=0) (i:=1) (i':=0) (q:=(((n:Nat):Int),0)) (Prod.ext (by show((n:Nat):Int)=(n:Int)+((0:Nat):Int);omega) rfl) (by simp) (.inl ⟨y1,by simp,by simp⟩) nX (.inr ⟨by simp,by simp,by simp⟩);have h3:=h2.Ho (j:=0) (i:=2) (i':=1) (q:=(((n:Nat):Int),1)) (Prod.ext (by show((n:Nat):Int)=(n:Int)+((0:Nat):Int);omega) rfl) (by simp) ⟨.inl ⟨y2,by simp,by simp⟩,by simp⟩ (fun e=>nX e.1) ⟨.inr ⟨by simp,by simp,by simp⟩,by simp⟩;refine h3.congr (fun r=> ?_) fun r=> ?_
 .have qx:=k.px r.2;have qy:=k.py r.2;have ql:=k.lt r;unfold yQ;obtain⟨a,b⟩:=r;have hg:∀z:Int,(n:Int)<=z->z<(n:Int)+1->([2]:List Nat).getD (z-n).toNat 0=2:=fun z h0 h1=>by rw[show(z-n).toNat=0 by omega];rfl
  have:=hg a;simp only[ne_eq,Prod.mk.injEq,qR,qI]at*
  grind
 .obtain⟨a,b⟩:=r;simp only[ne_eq,Prod.mk.injEq,qR]at*
  grind
def spR:Nat->SP
 |0=>.s 0 0
 |k+1=>.s (1+k) 2
def ET(k:Nat):SG:=[(.x 0,.y 0)]++(List.range k).map fun i:Nat=>(.s (1+i) 0,spR i)
theorem Ny(k:Nat):ET (k+1)=ET k++[(.s (1+k) 0,spR k)]:=by unfold ET;rw[List.range_succ,qZ,qF];rfl
def Cu(k m:Nat):SG:=ET k++(List.range m).map fun i:Nat=>(.x ((i:Int)+1),.s (1+i) 1)
theorem Nz(k m:Nat):Cu k (m+1)=Cu k m++[(.x ((m:Int)+1),.s (1+m) 1)]:=by unfold Cu;rw[List.range_succ,qZ,qF];rfl
def Lx(k:Nat):SG:=Cu k k++[(.y 1,spR k)]
def jR:Nat->Nat
 |0=>0
 |k+1=>1+k
def iR:Nat->Int
 |0=>0
 |_+1=>2
theorem JV(k:Nat):spR k=.s (jR k) (iR k):=by cases k<;>rfl
theorem yU(n k:Nat):iW (n+1) k=(((n:Nat):Int)+(jR k:Nat),iR k):=by
 cases k with
 |zero=>show((((n+1)-1:Nat):Int),(0:Int))=_;simp[jR,iR]
 |succ k=>show(((n+1+k:Nat):Int),(2:Int))=_;simp only[jR,iR,Prod.mk.injEq,and_true];omega
theorem Ue(k:Nat):jR k<=k:=by cases k<;>simp[jR];omega
theorem TS(k:Nat):(k=0/\jR k=0/\iR k=0)\/(0<k/\jR k=k/\iR k=2):=by
 cases k with
 |zero=>exact .inl ⟨rfl,rfl,rfl⟩
 |succ k=>exact .inr ⟨by omega,by simp only[jR];omega,rfl⟩
def L6(L:aC->Prop)(n:Nat)(x y:Int)(k:Nat):aC->Prop:=fun r=>(L r/\r≠(x,0)/\r≠(y,0))\/(r.1=(n:Int)/\r.2=0)\/((n:Int)+1<=r.1/\r.1<(n:Int)+1+k/\0<=r.2/\r.2<3)
theorem ZbP(h:Rel xs L yx σ){kx:Nat}(k:tJ L xs n x y kx 2)(a b c:Int)(d:List Int)(lv:Int):∀m:Nat,m+1<=kx->
  tF σ n x y (oL lv (n+1) (xs++[bf a b c d 1]) m) ([1]++List.replicate m 3) (ET m) (L6 L n x y m) (fun r=>r=((n:Int)+(jR m:Nat),iR m)\/((n:Int)+1<=r.1/\r.1<(n:Int)+1+m/\r.2=1))
 |0,hm=>by
  have h1:=(BP h k).add a b c d 1;refine h1.congr (fun r=> ?_) fun r=> ?_
  .unfold L6;obtain⟨a,b⟩:=r;simp only[ne_eq,Prod.mk.injEq,qR]at*
   grind
  .obtain⟨a,b⟩:=r;simp only[ne_eq,Prod.mk.injEq,qR,jR,iR]at*
   grind
 |m+1,hm=>by
  have ih:=ZbP h k a b c d lv m (by omega);have hl:([1]++List.replicate m 3).length=1+m:=by simp;omega
  have hl1:([1]++List.replicate m 3++[3]).length=2+m:=by simp;omega
  have h1:=ih.add 3 lv 0 [] 3;rw[hl]at h1;have jm:=Ue m;have im:=TS m;have h2:=h1.Uh (j:=1+m) (j':=jR m) (i:=0) (i':=iR m) (p:=(((n+1+m:Nat):Int),0)) (q:=iW (n+1) m) (Prod.ext (by show((n+1+m:Nat):Int)=(n:Int)+((1+m:Nat):Int);omega) rfl) (yU n m) (by rw[hl1];omega) (by rw[hl1];omega) (.inr ⟨by simp only;omega,by simp,by simp⟩) (.inl (.inl (yU n m))) (by rw[yU];simp only[ne_eq,Prod.mk.injEq];omega);unfold oL;rw[Ny,JV,List.replicate_succ',<-qF];refine h2.congr (fun r=> ?_) fun r=> ?_
  .unfold L6;obtain⟨a,b⟩:=r;simp only[ne_eq,Prod.mk.injEq]at*
   grind
  .rw[yU];obtain⟨a,b⟩:=r;simp only[ne_eq,Prod.mk.injEq,jR,iR]at*
   grind
theorem ZbQ(h:Rel xs L yx σ){kx:Nat}(k:tJ L xs n x y kx 2)(a b c:Int)(d:List Int)(lv:Int):∀m:Nat,m+1<=kx->
  tF σ n x y (Ch x (n+1) (oL lv (n+1) (xs++[bf a b c d 1]) (kx-1)) m) ([1]++List.replicate (kx-1) 3) (Cu (kx-1) m) (fun r=>L6 L n x y (kx-1) r/\¬(r.1=x/\1<=r.2/\r.2<=(m:Int))) (fun r=>r=((n:Int)+(jR (kx-1):Nat),iR (kx-1))\/((n:Int)+1+m<=r.1/\r.1<(n:Int)+1+((kx-1:Nat):Int)/\r.2=1))
 |0,hm=>by
  have e:Cu (kx-1) 0=ET (kx-1):=by unfold Cu;simp
  rw[e];refine(ZbP h k a b c d lv (kx-1) (by omega)).congr (fun r=> ?_) fun r=> ?_
  .obtain⟨a,b⟩:=r;simp only at*
   grind
  .obtain⟨a,b⟩:=r;simp only[Prod.mk.injEq]at*
   grind
 |m+1,hm=>by
  have ih:=ZbQ h k a b c d lv m (by omega);have hl:([1]++List.replicate (kx-1) 3).length=1+(kx-1):=by simp;omega
  have xm:L (x,(m:Int)+1):=(k.px _).2 (by omega);have ne:=k.ne;have x0:=k.x0;have im:=TS (kx-1);have h1:=ih.Uo (j:=1+m) (i:=((m:Nat):Int)+1) (i':=1) (q:=(((n+1+m:Nat):Int),1)) (Prod.ext (by show((n+1+m:Nat):Int)=(n:Int)+((1+m:Nat):Int);omega) rfl) (by rw[hl];omega) ⟨.inl ⟨xm,by simp only[ne_eq,Prod.mk.injEq];omega,by simp only[ne_eq,Prod.mk.injEq];omega⟩,by simp only;omega⟩ (fun e=>by simp only[Prod.mk.injEq]at e;omega) (.inr ⟨by simp only;omega,by simp only;omega,rfl⟩);unfold Ch;rw[Nz]
  refine h1.congr (fun r=> ?_) fun r=> ?_
  .obtain⟨a,b⟩:=r;simp only[ne_eq,Prod.mk.injEq]at*
   grind
  .obtain⟨a,b⟩:=r;simp only[ne_eq,Prod.mk.injEq]at*
   grind
theorem rs6(h:Rel xs L yx σ){kx:Nat}(k:tJ L xs n x y kx 2)(a b c:Int)(d:List Int)(lv:Int):
  tF σ n x y (bY (Ch x (n+1) (oL lv (n+1) (xs++[bf a b c d 1]) (kx-1)) (kx-1)) (y,1) (iW (n+1) (kx-1))) ([1]++List.replicate (kx-1) 3) (Lx (kx-1)) (yQ L n ([1]++List.replicate (kx-1) 3) x y) yx:=by
 have kx0:=k.kx0;have h0:=ZbQ h k a b c d lv (kx-1) (by omega);have hl:([1]++List.replicate (kx-1) 3).length=1+(kx-1):=by simp;omega
 have jm:=Ue (kx-1);have y1:L (y,1):=(k.py 1).2 (by omega);have ne:=k.ne;have y0:=k.y0;have im:=TS (kx-1);have h1:=h0.Ho (j:=jR (kx-1)) (i:=1) (i':=iR (kx-1)) (q:=iW (n+1) (kx-1)) (yU n _) (by rw[hl];omega) ⟨.inl ⟨y1,by simp,by simp⟩,by simp only;omega⟩ (fun e=>by simp only[Prod.mk.injEq]at e;omega) (.inl (yU n _));unfold Lx;rw[JV];refine h1.congr (fun r=> ?_) fun r=> ?_
 .have qx:=k.px r.2;have qy:=k.py r.2;have ql:=k.lt r;unfold yQ L6;obtain⟨a,b⟩:=r;have hg0:([1]++List.replicate (kx-1) 3:List Nat).getD 0 0=1:=rfl
  have hg1:∀i:Nat,i<kx-1->([1]++List.replicate (kx-1) 3:List Nat).getD (i+1) 0=3:=fun i hi=>by
   rw[qC];simp[List.getElem?_replicate,hi]
  have hga:a=(n:Int)->([1]++List.replicate (kx-1) 3:List Nat).getD (a-n).toNat 0=1:=fun e=>by rw[show(a-n).toNat=0 by omega];exact hg0
  have hgb:(n:Int)+1<=a->a<(n:Int)+1+((kx-1:Nat):Int)->([1]++List.replicate (kx-1) 3:List Nat).getD (a-n).toNat 0=3:=fun e0 e1=>by rw[show(a-n).toNat=(a-n).toNat-1+1 by omega];exact hg1 _ (by omega)
  rw[hl];simp only[ne_eq,Prod.mk.injEq]at*;generalize ([1]++List.replicate (kx-1) 3:List Nat).getD (a-n).toNat 0=g at*
  grind
 .rw[yU];obtain⟨a,b⟩:=r;simp only[ne_eq,Prod.mk.injEq]at*
  grind
end
end Go.Tr
namespace Go.Tr
open Go Go.RowKit
instance (xs:List ak)(p:aC):Decidable (aj xs p):=by unfold aj;exact inferInstance
def uL(T:List ak):W0:=fun q=>if aj T ((q.2.1:Int)+1,q.2.2)then(if(ay T ((q.2.1:Int)+1,q.2.2)).1=0 then some (!q.1,q.2)else if q.1=true then none else some (false,((ay T ((q.2.1:Int)+1,q.2.2)).1-1).toNat,(ay T ((q.2.1:Int)+1,q.2.2)).2))else none
structure F8(T:List ak):Prop where
 wi:gL (fun p=>aj T p) T
 p0:aj T (0,0)
 p1:∀p,aj T p->p.1=0->p=(0,0)
section
variable {T:aS}
theorem F8.pos(h:F8 T){p:aC}(hp:aj T p):0<=(ay T p).1/\(ay T p).1<(T.length:Nat):=by
 obtain⟨_,h2,_,_⟩:=h.wi p hp;exact⟨h2.1,h2.2.1⟩
theorem F8.top(h:F8 T){p:aC}(hp:aj T p)(h0:(ay T p).1=0):p=ay T (0,0):=by
 obtain⟨_,h2,h3,_⟩:=h.wi p hp;rw[<-h.p1 _ h2 h0];exact h3.symm
theorem F8.VT(h:F8 T):aj T (ay T (0,0))/\1<=(ay T (0,0)).1/\ay T (ay T (0,0))=(0,0):=by
 obtain⟨_,h2,h3,h4⟩:=h.wi _ h.p0;refine⟨h2,?_,h3⟩;have:=h.pos h.p0
 by_cases e:(ay T (0,0)).1=0
 .exact absurd (h.p1 _ h2 e) h4
 .omega
theorem Me(h:F8 T):Wd (T.length-1) (uL T):=by
 refine⟨fun p q hq=> ?_,fun p q hq=> ?_⟩
 .unfold uL at hq;split at hq
  .rename_i hp;have h1:=hp.2.1;have h2:=h.pos hp;simp only at h1;split at hq
   .have e:(!p.1,p.2)=q:=by simpa using hq
    subst e;exact⟨by omega,by simp only;omega⟩
   .split at hq
    .cases hq
    .have e:((false,((ay T ((p.2.1:Int)+1,p.2.2)).1-1).toNat,(ay T ((p.2.1:Int)+1,p.2.2)).2):Bool×Nat×Int)=q:=by simpa using hq
     subst e;exact⟨by omega,by simp only;omega⟩
  .cases hq
 .obtain⟨b,j,i⟩:=p;unfold uL at hq |-;simp only at hq |-;split at hq
  .rename_i hp;split at hq
   .rename_i h0;have e:((!b,j,i):Bool×Nat×Int)=q:=by simpa using hq
    subst e;simp only[hp,h0,if_true];refine⟨by simp,by simp⟩
   .rename_i h0;split at hq
    .cases hq
    .rename_i hb;have hb':b=false:=by simpa using hb
     subst hb';have hpos:=h.pos hp;obtain⟨_,h2,h3,h4⟩:=h.wi _ hp;have e:((false,((ay T ((j:Int)+1,i)).1-1).toNat,(ay T ((j:Int)+1,i)).2):Bool×Nat×Int)=q:=by simpa using hq
     subst e;have e1:(((((ay T ((j:Int)+1,i)).1-1).toNat:Nat):Int)+1,(ay T ((j:Int)+1,i)).2)=ay T ((j:Int)+1,i):=Prod.ext (by simp only;omega) rfl;simp only[e1,h3];rw[if_pos h2,if_neg (by omega),if_neg (by simp)];refine⟨by simp,fun e=>h4 ?_⟩;simp only[Prod.mk.injEq,true_and]at e;exact Prod.ext (by simp only;omega) e.2
  .cases hq
variable {xs:aS}{L:aC->Prop}{σ:Wi}{n:Nat}{x y:Int}
theorem Rel.VO(h:Rel xs L yx σ)(ht:F8 T)(hn:xs.length=n):
  Rel (xs++(T.drop 1).map (bP ((n:Int)-1))) (fun r=>L r\/((n:Int)<=r.1/\aj T (r.1-((n:Int)-1),r.2))) (fun r=>r=((ay T (0,0)).1+((n:Int)-1),(ay T (0,0)).2)) (jl n (T.length-1) (uL T) σ)/\Cc n (T.length-1) σ:=by
 subst hn;have hL:∀r,L r->r.1<(xs.length:Nat):=fun r hr=>(h.inn r hr).2.1
 obtain⟨t1,t2,t3⟩:=ht.VT
 have hF:Cc (xs.length:Nat) (T.length-1) σ:=by
  rintro⟨b,p⟩ hp;unfold fF at hp;simp only at hp;cases b with
  |false=>exact h.no p fun e=>by have:=hL p e;omega
  |true=>exact h.nv p id
 have hin:∀(b:Bool) (p:aC),(xs.length:Int)<=p.1->aj T (p.1-((xs.length:Int)-1),p.2)->jl (xs.length:Nat) (T.length-1) (uL T) σ (b,p)=if(ay T (p.1-((xs.length:Int)-1),p.2)).1=0 then some (!b,p)else if b=true then none else some (false,(ay T (p.1-((xs.length:Int)-1),p.2)).1+((xs.length:Int)-1),(ay T (p.1-((xs.length:Int)-1),p.2)).2):=fun b p hp hT=>by
  have hlt:=hT.2.1;simp only at hlt;have hb:fF (xs.length:Nat) (T.length-1) ((b,p):VP):=by unfold fF;simp only;omega
  have hpos:=ht.pos hT;rw[kP hb];unfold uL;simp only;rw[show(((p.1-(xs.length:Nat)).toNat:Nat):Int)+1=p.1-((xs.length:Int)-1) by omega,if_pos hT];split
  .simp only[Option.map_some];unfold IJ;simp only
   congr 2
   exact Prod.ext (by simp only;omega) rfl
  .split
   .rfl
   .simp only[Option.map_some];unfold IJ;simp only
    congr 2
    exact Prod.ext (by simp only;omega) rfl
 have hno:∀(b:Bool) (p:aC),(xs.length:Int)<=p.1->¬aj T (p.1-((xs.length:Int)-1),p.2)->jl (xs.length:Nat) (T.length-1) (uL T) σ (b,p)=none:=fun b p hp hT=>by
  by_cases hb:fF (xs.length:Nat) (T.length-1) ((b,p):VP)
  .rw[kP hb];unfold uL;simp only;rw[show(((p.1-(xs.length:Nat)).toNat:Nat):Int)+1=p.1-((xs.length:Int)-1) by omega,if_neg hT];rfl
  .rw[dQ hb];cases b with
   |false=>exact h.no p fun e=>by have:=hL p e;omega
   |true=>exact h.nv p id
 have hout:∀(b:Bool) (p:aC),p.1<(xs.length:Nat)->jl (xs.length:Nat) (T.length-1) (uL T) σ (b,p)=σ (b,p):=fun b p hp=>dQ (by unfold fF;simp only;omega)
 have tin:aj T ((ay T (0,0)).1+((xs.length:Int)-1)-((xs.length:Int)-1),(ay T (0,0)).2):=by
  rw[show(ay T (0,0)).1+((xs.length:Int)-1)-((xs.length:Int)-1)=(ay T (0,0)).1 by omega];exact t1
 have tpe:ay T ((ay T (0,0)).1+((xs.length:Int)-1)-((xs.length:Int)-1),(ay T (0,0)).2)=(0,0):=by
  rw[show(ay T (0,0)).1+((xs.length:Int)-1)-((xs.length:Int)-1)=(ay T (0,0)).1 by omega];exact t3
 have htop:∀r:aC,aj T (r.1-((xs.length:Int)-1),r.2)->((ay T (r.1-((xs.length:Int)-1),r.2)).1=0↔r=((ay T (0,0)).1+((xs.length:Int)-1),(ay T (0,0)).2)):=fun r hr=>by
  constructor
  .intro e;have:=ht.top hr e;exact Prod.ext (by rw[<-this];simp only;omega) (by rw[<-this])
  .intro e;rw[e];simp only;rw[tpe]
 refine⟨⟨fun r hr=> ?_,fun r hr=> ?_,fun r hr hx=> ?_,fun r hr=> ?_,fun r hr=> ?_,fun r hr=> ?_,zU (Me ht) h.wi hF⟩,hF⟩
 .rcases hr with hr|hr
  .exact(h.inn r hr).app
  .exact(aj.jG rfl).2 (.inr hr)
 .subst hr;exact .inr ⟨by simp only;omega,tin⟩
 .rcases hr with hr|⟨e,hT⟩
  .have hl:=hL r hr;have i:=h.inn r hr;rw[hout _ _ hl,h.re r hr id,jH (by have:=i.1;omega)]
  .rw[hin _ _ e hT,if_neg fun k=>hx ((htop r hT).1 k),if_neg (by simp),sO rfl e hT]
 .subst hr;rw[hin _ _ (by simp only;omega) tin,if_pos (by simp only;rw[tpe])];rfl
 .by_cases e:r.1<(xs.length:Nat)
  .rw[hout _ _ e];exact h.no r fun k=>hr (.inl k)
  .exact hno _ _ (by omega) fun k=>hr (.inr ⟨by omega,k⟩)
 .by_cases e:r.1<(xs.length:Nat)
  .rw[hout _ _ e];exact h.nv r id
  .by_cases hT:aj T (r.1-((xs.length:Int)-1),r.2)
   .rw[hin _ _ (by omega) hT,if_neg fun k=>hr ((htop r hT).1 k),if_pos rfl]
   .exact hno _ _ (by omega) hT
def XE(T:List ak):SG:=[(.x 0,.s ((ay T (0,0)).1-1).toNat (ay T (0,0)).2)]
theorem rel7(h:Rel xs L yx σ)(ht:F8 T)(hn:xs.length=n)(hx:L (x,0))(hx0:0<=x)(w:ay xs (x,0)=(y,0)):
  Rel (bD (xs++(T.drop 1).map (bP ((n:Int)-1))) (y,0) ((ay T (0,0)).1+((n:Int)-1),(ay T (0,0)).2)) (fun r=>(L r/\r≠(x,0))\/((n:Int)<=r.1/\aj T (r.1-((n:Int)-1),r.2))) yx (iT (SG.g n x y (XE T)) (jl n (T.length-1) (uL T) σ)):=by
 obtain⟨h1, -⟩:=h.VO ht hn;obtain⟨t1,t2,t3⟩:=ht.VT;have hl:x<(n:Nat):=by have:=(h.inn _ hx).2.1;simp only at this;omega
 have h2:=h1.move (p:=(x,0)) (q:=((ay T (0,0)).1+((n:Int)-1),(ay T (0,0)).2)) (.inl hx) (fun e=>by have:=congrArg Prod.fst e;simp only at this;omega) rfl
 have e:bY (xs++(T.drop 1).map (bP ((n:Int)-1))) (x,0) ((ay T (0,0)).1+((n:Int)-1),(ay T (0,0)).2)=bD (xs++(T.drop 1).map (bP ((n:Int)-1))) (y,0) ((ay T (0,0)).1+((n:Int)-1),(ay T (0,0)).2):=by
  unfold bY;rw[jH (by simp only;omega),w]
 rw[e]at h2
 have e2:((SP.s ((ay T (0,0)).1-1).toNat (ay T (0,0)).2).v n x y)=(true,((ay T (0,0)).1+((n:Int)-1),(ay T (0,0)).2)):=by
  unfold SP.v;simp only[Prod.mk.injEq,true_and,and_true];omega
 have e3:iT (SG.g n x y (XE T)) (jl n (T.length-1) (uL T) σ)=glue (false,(x,0)) (true,((ay T (0,0)).1+((n:Int)-1),(ay T (0,0)).2)) (jl n (T.length-1) (uL T) σ):=by
  rw[<-e2];rfl
 rw[e3];refine h2.congr (fun r=> ?_) fun r=> ?_
 .constructor
  .rintro(⟨l,e1⟩|e1)
   .exact⟨.inl l,e1⟩
   .exact⟨.inr e1,fun e=>by rw[e]at e1;simp only at e1;omega⟩
  .rintro⟨l|l,e1⟩
   .exact .inl ⟨l,e1⟩
   .exact .inr l
 .exact⟨False.elim,fun e=>e.2 e.1⟩
end
end Go.Tr
namespace Go.Tr
open Go Go.RowKit
abbrev pQ(a:ak):Nat:=a.2.2.2.2.length
def lsN(c:Int)(u v:ak):List Nat:=
 bif c==3 then[pQ v,pQ v]++List.replicate (pQ v-1) 3 else bif c==4 then List.replicate (pQ v-1) 1 else bif c==5 then(bif v.1==7 then[2]else[1])
 else bif c==6 then(bif u.1==6 then[1]else[1]++List.replicate (pQ u-1) 3)else[]
def Qm(bk:List (List ak))(u:ak):List ak:=bU u.2.1 (bG bk u.2.2.1)
def CG(bk:List (List ak))(c:Int)(u v:ak):Nat:=bif c==7 then(Qm bk u).length-1 else(lsN c u v).length
def Mc(bk:List (List ak))(c:Int)(u v:ak):W0:=bif c==7 then uL (Qm bk u)else stubs (lsN c u v)
def Gb(bk:List (List ak))(c:Int)(u v:ak):SG:=
 bif c==3 then Gj (pQ v-1) (pQ v-1)else bif c==4 then Lv (pQ v-1)else bif c==5 then(bif v.1==7 then ES else xg)
 else bif c==6 then(bif u.1==6 then xg else Lx (pQ u-1))else bif c==7 then XE (Qm bk u)else PX
theorem SL(i:Nat):SP.s (1+i) 0≠spR i:=by
 rw[JV];have:=Ue i;intro e;injection e with e1 e2
 omega
theorem KT(bk:iQ)(c:Int)(u v:ak):∀e∈Gb bk c u v,e.1≠e.2:=by
 have d4:∀k,∀e∈Lv k,e.1≠e.2:=fun k e he=>by
  unfold Lv at he;rcases List.mem_append.1 he with h|h
  .rw[qX]at h;rw[h];exact fun h=>by cases h
  .obtain⟨i,_,rfl⟩:=List.mem_map.1 h;exact fun h=>by cases h
 have d5a:∀e∈ES,e.1≠e.2:=fun e he=>by
  have:e=(.x 0,.y 0)\/e=(.y 1,.s 0 0)\/e=(.y 2,.s 0 1):=by simpa[ES]using he
  rcases this with h|h|h<;>rw[h]<;>exact fun h=>by cases h
 have d5b:∀e∈xg,e.1≠e.2:=fun e he=>by
  have:e=(.x 0,.y 0)\/e=(.y 1,.s 0 0):=by simpa[xg]using he
  rcases this with h|h<;>rw[h]<;>exact fun h=>by cases h
 have d12:∀e∈PX,e.1≠e.2:=fun e he=>by
  have:e=(.x 0,.y 0)\/e=(.x 1,.y 1)\/e=(.x 2,.y 2):=by simpa[PX]using he
  rcases this with h|h|h<;>rw[h]<;>exact fun h=>by cases h
 have d3:∀k m,∀e∈Gj k m,e.1≠e.2:=fun k m e he=>by
  unfold Gj ER at he;simp only[List.mem_append,qX,List.mem_flatMap,List.mem_map,List.mem_cons,List.not_mem_nil,or_false]at he;rcases he with(((h|⟨i,_,h|h⟩)|h)|h)|⟨i,_,h⟩
  .rw[h];exact fun h=>by cases h
  .rw[h];intro h2;injection h2 with h3 h4;omega
  .rw[h];intro h2;injection h2 with h3 h4;omega
  .rw[h];exact fun h=>by cases h
  .rw[h];exact fun h=>by cases h
  .rw[<-h];exact fun h=>by cases h
 have d6:∀k,∀e∈Lx k,e.1≠e.2:=fun k e he=>by
  unfold Lx Cu ET at he;simp only[List.mem_append,qX,List.mem_map,List.mem_cons,List.not_mem_nil,or_false]at he;rcases he with((h|⟨i,_,h⟩)|⟨i,_,h⟩)|h
  .rw[h];exact fun h=>by cases h
  .rw[<-h];exact SL i
  .rw[<-h];exact fun h=>by cases h
  .rw[h];rw[JV];exact fun h=>by cases h
 unfold Gb;cases c==3
 .cases c==4
  .cases c==5
   .cases c==6
    .cases c==7
     .exact d12
     .intro e he;have:e=(.x 0,.s ((ay (Qm bk u) (0,0)).1-1).toNat (ay (Qm bk u) (0,0)).2):=by simpa[XE]using he
      rw[this];exact fun h=>by cases h
    .cases u.1==6
     .exact d6 _
     .exact d5b
   .cases v.1==7
    .exact d5b
    .exact d5a
  .exact d4 _
 .exact d3 _ _
theorem SP.Zb1{n x y:Int}{p q:SP}(hxy:x≠y)(h:p.v n x y=q.v n x y):p=q:=by
 cases p<;>cases q<;>simp only[SP.v,Prod.mk.injEq]at h<;>first|(obtain⟨h1, -⟩:=h;cases h1;done)|skip
 .rw[h.2.2]
 .exact absurd h.2.1 hxy
 .exact absurd h.2.1.symm hxy
 .rw[h.2.2]
 .rw[h.2.2]
  congr 1
  omega
theorem SG.dist{n x y:Int}{φ:SG}(hxy:x≠y)(h:∀e∈φ,e.1≠e.2):GOk (SG.g n x y φ):=fun e he=>by
 obtain⟨f,hf,rfl⟩:=List.mem_map.1 he;exact fun k=>h f hf (SP.Zb1 hxy k)
section
variable {D:Int->Prop}{σ:Wi}{n:Nat}{x y c:Int}{xs zs news:aS}{L:aC->Prop}{bk:iQ}
theorem NH(hs:eB zs (xs++news))(r:aC):aj zs r↔aj xs r\/((xs.length:Int)<=r.1/\r.1<((xs.length+news.length:Nat):Int)/\0<=r.2/\r.2<(((news.map pQ).getD (r.1-xs.length).toNat 0:Nat):Int)):=by
 have hl:=hs.1;rw[qA]at hl;unfold aj;rw[hl]
 by_cases h0:0<=r.1/\r.1<((xs.length+news.length:Nat):Int)
 .have h1:=hs.2 r.1 h0.1 (by rw[hl];exact h0.2);have h2:(ah zs r.1).aO.length=(ah (xs++news) r.1).aO.length:=congrArg (fun s:Int×Int×Int×List Int×Nat=>s.2.2.2.2) h1;rw[h2]
  by_cases h3:r.1<(xs.length:Nat)
  .rw[bZ (by omega)];constructor
   .rintro⟨a,b,d,e⟩;exact .inl ⟨a,h3,d,e⟩
   .rintro(⟨a,b,d,e⟩|⟨a,_⟩)
    .exact⟨a,h0.2,d,e⟩
    .omega
  .have e:(ah (xs++news) r.1).aO.length=(news.map pQ).getD (r.1-xs.length).toNat 0:=by
    unfold ah elt;rw[qC,qL (by omega),qC,qY,show(r.1-(xs.length:Nat)).toNat=r.1.toNat-xs.length by omega,qB (by omega)];rfl
   rw[e];constructor
   .rintro⟨a,b,d,e⟩;exact .inr ⟨by omega,b,d,e⟩
   .rintro(⟨a,b,d,e⟩|⟨a,b,d,e⟩)
    .omega
    .exact⟨by omega,b,d,e⟩
 .constructor
  .rintro⟨a,b,_⟩;exact absurd ⟨a,b⟩ h0
  .rintro(⟨a,b,d,e⟩|⟨a,b,d,e⟩)
   .exact absurd ⟨a,by omega⟩ h0
   .exact absurd ⟨by omega,b⟩ h0
theorem Ui(hs:eB zs (xs++news))(hD:∀i,D i->i<(xs.length:Nat))(hx:x<(xs.length:Nat))(hy:y<(xs.length:Nat)){ls:dF}(hn:news.map pQ=ls)(r:aC):
  Live (fun i=>D i\/i=x\/i=y) zs r↔yQ (Live D xs) xs.length ls x y r:=by
 unfold Live yQ;rw[NH hs,hn];have hl:news.length=ls.length:=by rw[<-hn,qV]
 rw[hl];constructor
 .rintro⟨h|⟨h1,h2,h3,h4⟩,h5⟩
  .exact .inl ⟨⟨h,fun e=>h5 (.inl e)⟩,fun e=>h5 (.inr (.inl e)),fun e=>h5 (.inr (.inr e))⟩
  .exact .inr ⟨h1,h2,h3,h4⟩
 .rintro(⟨⟨h1,h2⟩,h3,h4⟩|⟨h1,h2,h3,h4⟩)
  .exact⟨.inl h1,by rintro(e|e|e);exact h2 e;exact h3 e;exact h4 e⟩
  .refine⟨.inr ⟨h1,h2,h3,h4⟩,?_⟩;rintro(e|e|e)
   .have:=hD _ e;omega
   .omega
   .omega
end
end Go.Tr
namespace Go.Tr
open Go Go.RowKit
section
variable {D:Int->Prop}{σ:Wi}{n:Nat}{x y c:Int}{xs zs:aS}{L:aC->Prop}{bk:iQ}
theorem Zaa(h:Rel xs L yx σ){ky:Nat}(k:tJ L xs n x y 3 ky)(hky:(ah xs y).2.2.2.2.length=ky)(hy1:1<=ky):tF σ n x y (bK xs x y) ([ky,ky]++List.replicate (ky-1) 3) (Gj (ky-1) (ky-1)) (yQ L n ([ky,ky]++List.replicate (ky-1) 3) x y) yx:=by
 have h0:=rs3 h k hky hy1 (ky-1) (by omega);have e:bK xs x y=cB y (n+2) (mM xs x y) (ky-1):=by unfold bK;rw[hky,k.len]
 rw[e];refine h0.congr (fun r=> ?_) fun r=> ?_
 .have qx:=k.px r.2;have qy:=k.py r.2;have ql:=k.lt r;have x0:=k.x0;have y0:=k.y0;unfold yQ L3;obtain⟨a,b⟩:=r
  have hg1:∀i:Nat,i<ky-1->([ky,ky]++List.replicate (ky-1) 3:List Nat).getD (i+2) 0=3:=fun i hi=>by
   rw[qC];simp[List.getElem?_replicate,hi]
  have hga:a=(n:Int)\/a=(n:Int)+1->([ky,ky]++List.replicate (ky-1) 3:List Nat).getD (a-n).toNat 0=ky:=by
   rintro(e|e)
   .rw[show(a-n).toNat=0 by omega];rfl
   .rw[show(a-n).toNat=1 by omega];rfl
  have hgb:(n:Int)+2<=a->a<(n:Int)+2+((ky-1:Nat):Int)->([ky,ky]++List.replicate (ky-1) 3:List Nat).getD (a-n).toNat 0=3:=fun e0 e1=>by rw[show(a-n).toNat=(a-n).toNat-2+2 by omega];exact hg1 _ (by omega)
  have hl:([ky,ky]++List.replicate (ky-1) 3:List Nat).length=ky+1:=by simp;omega
  rw[hl];simp only[ne_eq,Prod.mk.injEq]at*;generalize ([ky,ky]++List.replicate (ky-1) 3:List Nat).getD (a-n).toNat 0=g at*
  grind
 .obtain⟨a,b⟩:=r;simp only at*
  grind
theorem Zab(h:Rel xs L yx σ){ky:Nat}(k:tJ L xs n x y 1 ky)(hky:(ah xs y).2.2.2.2.length=ky)(hy1:1<=ky):tF σ n x y (iA xs y) (List.replicate (ky-1) 1) (Lv (ky-1)) (yQ L n (List.replicate (ky-1) 1) x y) yx:=by
 have h0:=rs4 h k (ky-1) (by omega);unfold iA;rw[hky];refine h0.congr (fun r=> ?_) fun r=>Iff.rfl
 .have qx:=k.px r.2;have qy:=k.py r.2;have ql:=k.lt r;have x0:=k.x0;have y0:=k.y0;unfold yQ;obtain⟨a,b⟩:=r
  have hgb:(n:Int)<=a->a<(n:Int)+((ky-1:Nat):Int)->(List.replicate (ky-1) 1:List Nat).getD (a-n).toNat 0=1:=fun e0 e1=>by
   have:(a-n).toNat<ky-1:=by omega
   rw[qC,List.getElem?_replicate,if_pos this];rfl
  have hl:(List.replicate (ky-1) 1:List Nat).length=ky-1:=by simp
  rw[hl];simp only[ne_eq,Prod.mk.injEq]at*;generalize (List.replicate (ky-1) 1:List Nat).getD (a-n).toNat 0=g at*
  grind
theorem Zbt(h:Rel xs (Live D xs) yx σ)(k:iw D xs x y)(hD:∀i,D i->i<(xs.length:Nat)):tJ (Live D xs) xs xs.length x y (pQ (ah xs x)) (pQ (ah xs y)):=by
 have hp:∀(z:Int),aj xs (z,0)->¬D z->∀i:Int,Live D xs (z,i)↔0<=i/\i<((pQ (ah xs z):Nat):Int):=fun z hz hd i=>
  ⟨fun e=>⟨e.1.2.2.1,e.1.2.2.2⟩,fun e=>⟨⟨hz.1,hz.2.1,e.1,e.2⟩,hd⟩⟩
 exact⟨k.ne,⟨k.px.1,k.px.2.1⟩,⟨k.py.1,k.py.2.1⟩,rfl,hp x k.px k.lx,hp y k.py k.ly,by have e:(0:Int)<((ah xs x).aO.length:Nat):=k.px.2.2.2;show 0<(ah xs x).aO.length;omega,fun r hr=>hr.1.2.1,k.w⟩
structure YU(bk:List (List ak))(D:Int->Prop)(xs:List ak)(c x y:Int)(σ:Wi):Prop where
 rel:Rel (aW bk xs c x y) (Live (fun i=>D i\/i∈bR c x y) (aW bk xs c x y)) yx (iT (SG.g (xs.length:Nat) x y (Gb bk c (ah xs x) (ah xs y))) (jl (xs.length:Nat) (CG bk c (ah xs x) (ah xs y)) (Mc bk c (ah xs x) (ah xs y)) σ))
 tok:Wd (CG bk c (ah xs x) (ah xs y)) (Mc bk c (ah xs x) (ah xs y))
 gok:(Gb bk c (ah xs x) (ah xs y)).ok (CG bk c (ah xs x) (ah xs y))
 num:CG bk c (ah xs x) (ah xs y)=(lH bk xs c x y).length
theorem QU(h:Rel xs (Live D xs) yx σ)(k:iw D xs x y)(hD:∀i,D i->i<(xs.length:Nat))(hw:RV D xs)(hr:rule (ah xs x).1 (ah xs x).2.1 (ah xs y).1 (ah xs y).2.1=c)(hc:1<=c/\c<=7)(hb:BkW bk)(h7:c=7->(ah xs x).2.2.1<(bk.length:Nat)):YU bk D xs c x y σ:=by
 have wx:=hw x k.px.1 k.px.2.1 k.lx;have wy:=hw y k.py.1 k.py.2.1 k.ly;obtain⟨x1,x2,x3,x4⟩:=fG wx;obtain⟨y1,y2,y3,y4⟩:=fG wy;obtain⟨r1,r2,r3,r4,r5,r6,r7⟩:=eP hr (by omega);have P:=Zbt h k hD;have hx:=P.x0;have hy:=P.y0;have sg:=nQ (bk:=bk) (xs:=xs) (x:=x) (y:=y) hc (by omega)
 have fin:∀{ls:List Nat} {φ:SG},c≠7->lsN c (ah xs x) (ah xs y)=ls->Gb bk c (ah xs x) (ah xs y)=φ->(lH bk xs c x y).map pQ=ls->tF σ xs.length x y (aW bk xs c x y) ls φ (yQ (Live D xs) xs.length ls x y) yx->YU bk D xs c x y σ:=fun {ls φ} n7 e1 e2 e3 R=>by
  have c7:(c==7)=false:=by simpa using n7
  have en:CG bk c (ah xs x) (ah xs y)=ls.length:=by unfold CG;rw[c7,e1];rfl
  have et:Mc bk c (ah xs x) (ah xs y)=stubs ls:=by unfold Mc;rw[c7,e1];rfl
  refine⟨?_,by rw[en,et];exact FK ls,by rw[e2,en];exact R.ok,by rw[en,<-e3,qV]⟩;rw[en,et,e2];refine R.rel.congr (fun r=> ?_) fun _=>Iff.rfl
  have eg:(fun i=>D i\/i∈bR c x y)=fun i=>D i\/i=x\/i=y:=funext fun i=>propext (by unfold bR;rw[c7];simp)
  rw[eg];exact Ui sg hD hx.2 hy.2 e3 r
 have hcs:c=1\/c=2\/c=3\/c=4\/c=5\/c=6\/c=7:=by omega
 rcases hcs with rfl|rfl|rfl|rfl|rfl|rfl|rfl
 .obtain⟨a,b⟩:=r1 rfl;have kx:pQ (ah xs x)=3:=x3 (by omega);have ky:pQ (ah xs y)=3:=y3 (by omega);rw[kx,ky]at P;exact fin (by decide) rfl rfl rfl (ZbO h P)
 .obtain⟨a,b⟩:=r2 rfl;have kx:pQ (ah xs x)=3:=x3 (by omega);have ky:pQ (ah xs y)=3:=y3 (by omega);rw[kx,ky]at P;exact fin (by decide) rfl rfl rfl (ZbO h P)
 .have kx:pQ (ah xs x)=3:=x3 (by have:=r3 rfl;omega);rw[kx]at P;refine fin (by decide) rfl rfl ?_ (Zaa h P rfl (eG wy).2.2.2);show([lD xs y]++[lD xs y]++List.replicate ((ah xs y).2.2.2.2.length-1) (bf 4 (ah xs x).2.1 0 [] 3)).map pQ=[pQ (ah xs y),pQ (ah xs y)]++List.replicate (pQ (ah xs y)-1) 3;unfold lD bf;simp[pQ]
 .have kx:pQ (ah xs x)=1:=x1 (by have:=r4 rfl;omega);rw[kx]at P;refine fin (by decide) rfl rfl ?_ (Zab h P rfl (eG wy).2.2.2);show(List.replicate ((ah xs y).2.2.2.2.length-1) (bf 5 0 0 [] 1)).map pQ=List.replicate (pQ (ah xs y)-1) 1;unfold bf;simp[pQ]
 .obtain⟨a,b⟩:=r5 rfl;have kx:pQ (ah xs x)=1:=x1 (by omega);rw[kx]at P;cases hk:(ah xs y).1==7 with
  |true=>
   have k7:(ah xs y).1=7:=by simpa using hk
   have ky:pQ (ah xs y)=3:=y3 (by omega);rw[ky]at P;refine fin (ls:=[2]) (φ:=ES) (by decide) ?_ ?_ ?_ ?_
   .show(bif (ah xs y).1==7 then[2]else[1])=_;rw[hk];rfl
   .show(bif (ah xs y).1==7 then ES else xg)=_;rw[hk];rfl
   .show(bif (ah xs y).1==7 then[bf 8 (ah xs y).2.1 (ah xs y).2.2.1 [(ah xs x).2.2.1] 2]else[bf 6 0 (xZ (ah xs y).2.2.1 (kM (ah xs y).2.2.2.1 0) (ah xs x).2.2.1) [] 1]).map pQ=_;rw[hk];rfl
   .show tF σ xs.length x y (bJ xs x y) _ _ _ _;unfold bJ;rw[hk];exact Zac h P _ _ _ _
  |false=>
   have k7:(ah xs y).1≠7:=by simpa using hk
   have ky:pQ (ah xs y)=2:=y2 (by omega);rw[ky]at P;refine fin (ls:=[1]) (φ:=xg) (by decide) ?_ ?_ ?_ ?_
   .show(bif (ah xs y).1==7 then[2]else[1])=_;rw[hk];rfl
   .show(bif (ah xs y).1==7 then ES else xg)=_;rw[hk];rfl
   .show(bif (ah xs y).1==7 then[bf 8 (ah xs y).2.1 (ah xs y).2.2.1 [(ah xs x).2.2.1] 2]else[bf 6 0 (xZ (ah xs y).2.2.1 (kM (ah xs y).2.2.2.1 0) (ah xs x).2.2.1) [] 1]).map pQ=_;rw[hk];rfl
   .show tF σ xs.length x y (bJ xs x y) _ _ _ _;unfold bJ;rw[hk];exact VB h P _ _ _ _
 .have q:=r6 rfl;have ky:pQ (ah xs y)=2:=y2 (by omega);rw[ky]at P
  have en:lH bk xs 6 x y=(bif (ah xs x).1==6 then[bf 12 (ah xs y).2.1 (kM (ah xs y).2.2.2.1 (bif (ah xs x).2.2.1==0 then 1 else 0)) [] 1]
   else[bf 12 (ah xs y).2.1 (kM (ah xs y).2.2.2.1 (ah xs x).2.2.1) [] 1]++List.replicate ((ah xs x).2.2.2.2.length-1) (bf 3 (ah xs y).2.1 0 [] 3)):=rfl
  cases hk:(ah xs x).1==6 with
  |true=>
   have k6:(ah xs x).1=6:=by simpa using hk
   have kx:pQ (ah xs x)=1:=x1 (by omega);rw[kx]at P;refine fin (ls:=[1]) (φ:=xg) (by decide) ?_ ?_ ?_ ?_
   .show(bif (ah xs x).1==6 then[1]else[1]++List.replicate (pQ (ah xs x)-1) 3)=_;rw[hk];rfl
   .show(bif (ah xs x).1==6 then xg else Lx (pQ (ah xs x)-1))=_;rw[hk];rfl
   .rw[en,hk];rfl
   .show tF σ xs.length x y (gZ xs x y) _ _ _ _;unfold gZ;rw[hk];exact VB h P _ _ _ _
  |false=>
   refine fin (ls:=[1]++List.replicate (pQ (ah xs x)-1) 3) (φ:=Lx (pQ (ah xs x)-1)) (by decide) ?_ ?_ ?_ ?_
   .show(bif (ah xs x).1==6 then[1]else[1]++List.replicate (pQ (ah xs x)-1) 3)=_;rw[hk];rfl
   .show(bif (ah xs x).1==6 then xg else Lx (pQ (ah xs x)-1))=_;rw[hk];rfl
   .rw[en,hk];unfold bf;simp[pQ]
   .show tF σ xs.length x y (gZ xs x y) _ _ _ _;unfold gZ;rw[hk];exact rs6 h P _ _ _ _ _
 .obtain⟨a,b⟩:=r7 rfl;have v:=rV wx a;have kx:pQ (ah xs x)=1:=x1 (by omega);have tm:F8 (Qm bk (ah xs x)):=⟨(hb.wi _ v.1 (h7 rfl)).shift,aj.gV.2 (hb.r0 _ v.1 (h7 rfl)),fun p hp e=>hb.r1 _ v.1 (h7 rfl) p (aj.gV.1 hp) e⟩;have lx:Live D xs (x,0):=⟨k.px,k.lx⟩;have R:=rel7 (T:=Qm bk (ah xs x)) (n:=xs.length) h tm rfl lx hx.1 k.w;refine⟨?_,Me tm,?_,?_⟩
  .refine R.congr (fun r=> ?_) fun _=>Iff.rfl
   show Live (fun i=>D i\/i∈bR 7 x y) (jO bk xs x y) r↔_
   have hp:aj (jO bk xs x y) r↔aj xs r\/((xs.length:Int)<=r.1/\aj (Qm bk (ah xs x)) (r.1-((xs.length:Int)-1),r.2)):=by
    unfold jO;rw[<-aj.jG rfl];exact⟨fun e=>e.unlink,fun e=>e.link⟩
   unfold Live;rw[hp]
   have hone:∀i:Int,aj xs (x,i)->i=0:=fun i hi=>by
    have h1:=hi.2.2.1;have h2:=hi.2.2.2;have kx':(ah xs x).aO.length=1:=kx;simp only at h1 h2;rw[kx']at h2;omega
   unfold bR;simp only[beq_self_eq_true,qG,qX];constructor
   .rintro⟨h1|h1,h2⟩
    .exact .inl ⟨⟨h1,fun e=>h2 (.inl e)⟩,fun e=>h2 (.inr (by rw[e]))⟩
    .exact .inr h1
   .rintro(⟨⟨h1,h2⟩,h3⟩|h1)
    .refine⟨.inl h1,?_⟩;rintro(e|e)
     .exact h2 e
     .obtain⟨ra,rb⟩:=r;simp only at e;subst e;exact h3 (by rw[hone rb h1])
    .refine⟨.inr h1,?_⟩;rintro(e|e)
     .have:=hD _ e;omega
     .have:=h1.1;omega
  .intro e he;have e1:e=(.x 0,.s ((ay (Qm bk (ah xs x)) (0,0)).1-1).toNat (ay (Qm bk (ah xs x)) (0,0)).2):=qX.1 he;rw[e1];refine⟨trivial,?_⟩;have:=tm.VT;have h2:=tm.pos tm.p0;show((ay (Qm bk (ah xs x)) (0,0)).1-1).toNat<(Qm bk (ah xs x)).length-1;omega
  .show(Qm bk (ah xs x)).length-1=(((mJ bk xs x).drop 1).map (bP ((xs.length:Nat)-1))).length;rw[mG];rfl
end
end Go.Tr
namespace Go.Tr
open Go Go.RowKit
def lq(n k k':Nat)(i:Int):Int:=if i<n then i else if i<(n:Int)+k then i+k' else if i<(n:Int)+k+k' then i-k else i
theorem JW{n k k':Nat}(a b:Int)(h:lq n k k' a=lq n k k' b):a=b:=by
 unfold lq at h;split at h<;>split at h<;>(try split at h)<;>(try split at h)<;>(try split at h)<;>(try split at h)<;>omega
theorem ni{n k k':Nat}{i:Int}(h:i<(n:Int)):lq n k k' i=i:=by unfold lq;rw[if_pos h]
theorem Av{n k k':Nat}{j:Nat}(h:j<k):lq n k k' ((n:Int)+j)=((n+k':Nat):Int)+j:=by unfold lq;rw[if_neg (by omega),if_pos (by omega)];omega
theorem Aw{n k k':Nat}{j:Nat}(h:j<k'):lq n k k' (((n+k:Nat):Int)+j)=(n:Int)+j:=by unfold lq;rw[if_neg (by omega),if_neg (by omega),if_pos (by omega)];omega
theorem JX{n k k':Nat}{i:Int}(h:(n:Int)+k+k'<=i):lq n k k' i=i:=by unfold lq;rw[if_neg (by omega),if_neg (by omega),if_neg (by omega)]
theorem Ql(n k k':Nat)(i:Int):lq n k' k (lq n k k' i)=i:=by
 unfold lq
 (repeat' split)<;>omega
theorem Z8{n k k':Nat}{τ τ':W0}{σ:Wi}(ht:Wd k τ)(ht':Wd k' τ')(hf:∀t:VP,(n:Int)<=t.2.1->σ t=none)(hi:Dt σ):
  Wt (lq n k k') (jl ((n+k:Nat):Int) k' τ' (jl n k τ σ)) (jl ((n+k':Nat):Int) k τ (jl n k' τ' σ)):=by
 rintro⟨b,a,i⟩
 by_cases h0:a<(n:Int)
 .have e:yh (lq n k k') (b,(a,i))=(b,(a,i)):=by unfold yh;simp only;rw[ni h0]
  rw[e,dQ (by unfold fF;simp only;omega),dQ (by unfold fF;simp only;omega),dQ (by unfold fF;simp only;omega),dQ (by unfold fF;simp only;omega)];cases hs:σ (b,(a,i))with
  |none=>rfl
  |some q=>
   obtain⟨h1,h2⟩:=hi _ _ hs
   have hq:q.2.1<(n:Int):=by
    rcases Int.lt_or_le q.2.1 n with e|e
    .exact e
    .rw[hf q e]at h1;cases h1
   simp only[Option.map_some,Option.some.injEq];unfold yh;rw[ni hq]
 .by_cases h1:a<(n:Int)+k
  .obtain⟨j,rfl⟩:∃j:Nat,a=(n:Int)+j:=⟨(a-n).toNat,by omega⟩;have hj:j<k:=by omega
   have e:yh (lq n k k') (b,((n:Int)+j,i))=(b,(((n+k':Nat):Int)+j,i)):=by unfold yh;simp only;rw[Av hj]
   rw[e,kP (by unfold fF;simp only;omega),dQ (by unfold fF;simp only;omega),kP (by unfold fF;simp only;omega)];simp only;rw[show(((n+k':Nat):Int)+(j:Int)-((n+k':Nat):Int)).toNat=j by omega,show((n:Int)+(j:Int)-(n:Int)).toNat=j by omega];cases hq:τ (b,j,i)with
   |none=>rfl
   |some q=>
    have hl:=(ht.lt _ _ hq).2;simp only[Option.map_some,Option.some.injEq];unfold IJ yh;simp only;rw[Av hl]
  .by_cases h2:a<(n:Int)+k+k'
   .obtain⟨j,rfl⟩:∃j:Nat,a=((n+k:Nat):Int)+j:=⟨(a-n-k).toNat,by omega⟩;have hj:j<k':=by omega
    have e:yh (lq n k k') (b,(((n+k:Nat):Int)+j,i))=(b,((n:Int)+j,i)):=by unfold yh;simp only;rw[Aw hj]
    rw[e,dQ (by unfold fF;simp only;omega),kP (by unfold fF;simp only;omega),kP (by unfold fF;simp only;omega)];simp only;rw[show(((n+k:Nat):Int)+(j:Int)-((n+k:Nat):Int)).toNat=j by omega,show((n:Int)+(j:Int)-(n:Int)).toNat=j by omega];cases hq:τ' (b,j,i)with
    |none=>rfl
    |some q=>
     have hl:=(ht'.lt _ _ hq).2;simp only[Option.map_some,Option.some.injEq];unfold IJ yh;simp only;rw[Aw hl]
   .have e:yh (lq n k k') (b,(a,i))=(b,(a,i)):=by unfold yh;simp only;rw[JX (by omega)]
    rw[e,dQ (by unfold fF;simp only;omega),dQ (by unfold fF;simp only;omega),dQ (by unfold fF;simp only;omega),dQ (by unfold fF;simp only;omega),hf _ (by simp only;omega)];rfl
theorem XZ{n k k':Nat}{x y:Int}{φ:SG}(ok:φ.ok k)(hx:x<(n:Int))(hy:y<(n:Int)):rnG (lq n k k') (SG.g n x y φ)=SG.g ((n+k':Nat):Int) x y φ:=by
 unfold rnG SG.g;rw[List.map_map];refine List.map_congr_left fun e he=> ?_
 have key:∀p:SP,p.ok k->yh (lq n k k') (p.v n x y)=p.v ((n+k':Nat):Int) x y:=fun p hp=>by
  cases p with
  |x i=>unfold SP.v yh;simp only;rw[ni hx]
  |y i=>unfold SP.v yh;simp only;rw[ni hy]
  |s j i=>unfold SP.v yh;simp only;rw[Av hp]
 show(_,_)=(_,_);rw[key _ (ok e he).1,key _ (ok e he).2]
theorem X0{n k k':Nat}{x y:Int}{φ:SG}(ok:φ.ok k')(hx:x<(n:Int))(hy:y<(n:Int)):rnG (lq n k k') (SG.g ((n+k:Nat):Int) x y φ)=SG.g n x y φ:=by
 unfold rnG SG.g;rw[List.map_map];refine List.map_congr_left fun e he=> ?_
 have key:∀p:SP,p.ok k'->yh (lq n k k') (p.v ((n+k:Nat):Int) x y)=p.v n x y:=fun p hp=>by
  cases p with
  |x i=>unfold SP.v yh;simp only;rw[ni hx]
  |y i=>unfold SP.v yh;simp only;rw[ni hy]
  |s j i=>unfold SP.v yh;simp only;rw[Aw hp]
 show(_,_)=(_,_);rw[key _ (ok e he).1,key _ (ok e he).2]
theorem QN{n k:Nat}{x y x' y':Int}{φ φ':SG}(ok:φ.ok k)(hx:x<(n:Int))(hy:y<(n:Int))(hx':x'<(n:Int))(hy':y'<(n:Int))(h1:x≠x')(h2:x≠y')(h3:y≠x')(h4:y≠y'):
  ∀e∈SG.g n x y φ,∀f∈SG.g ((n+k:Nat):Int) x' y' φ',Mv e f:=fun e he f hf=>by
 obtain⟨e,me,rfl⟩:=List.mem_map.1 he;obtain⟨f,_,rfl⟩:=List.mem_map.1 hf
 have key:∀p q:SP,p.ok k->p.v n x y≠q.v ((n+k:Nat):Int) x' y':=fun p q hp e=>by
  cases p<;>cases q<;>simp only[SP.v,Prod.mk.injEq]at e
  .exact h1 e.2.1
  .exact h2 e.2.1
  .cases e.1
  .exact h3 e.2.1
  .exact h4 e.2.1
  .cases e.1
  .cases e.1
  .cases e.1
  .have hj:=hp;unfold SP.ok at hj;omega
 exact⟨key _ _ (ok e me).1,key _ _ (ok e me).1,key _ _ (ok e me).2,key _ _ (ok e me).2⟩
theorem Ob{n k k':Nat}{x y x' y':Int}{τ τ':W0}{φ φ':SG}{σ:Wi}(ht:Wd k τ)(ht':Wd k' τ')(ok:φ.ok k)(ok':φ'.ok k')(d:∀e∈φ,e.1≠e.2)(d':∀e∈φ',e.1≠e.2)
  (hf:∀t:VP,(n:Int)<=t.2.1->σ t=none) (hi:Dt σ) (hx:x<(n:Int)) (hy:y<(n:Int)) (hx':x'<(n:Int)) (hy':y'<(n:Int)) (hxy:x≠y) (hxy':x'≠y') (h1:x≠x') (h2:x≠y') (h3:y≠x') (h4:y≠y'):
  Wt (lq n k k') (iT (SG.g ((n+k:Nat):Int) x' y' φ') (jl ((n+k:Nat):Int) k' τ' (iT (SG.g n x y φ) (jl n k τ σ)))) (iT (SG.g ((n+k':Nat):Int) x y φ) (jl ((n+k':Nat):Int) k τ (iT (SG.g n x' y' φ') (jl n k' τ' σ)))):=by
 have o1:Wo ((n+k:Nat):Int) k' (SG.g n x y φ):=by
  have:=SG.out (n:=n) (x:=x) (y:=y) (k:=k') ok hx hy
  rwa[show(n:Int)+(k:Nat)=((n+k:Nat):Int) by omega]at this
 have o2:Wo ((n+k':Nat):Int) k (SG.g n x' y' φ'):=by
  have:=SG.out (n:=n) (x:=x') (y:=y') (k:=k) ok' hx' hy'
  rwa[show(n:Int)+(k':Nat)=((n+k':Nat):Int) by omega]at this
 have f1:Cc n k σ:=fun t h=>hf t h.1
 have f2:Cc n k' σ:=fun t h=>hf t h.1
 have f3:Cc ((n+k:Nat):Int) k' (jl n k τ σ):=fun t h=>by
  unfold fF at h;rw[dQ (by unfold fF;omega)];exact hf t (by omega)
 rw[vg ht' o1,vg ht o2];have R:=(Z8 ht ht' hf hi).iT JW (φ:=SG.g n x y φ);have R2:=R.iT JW (φ:=SG.g ((n+k:Nat):Int) x' y' φ');rw[XZ ok hx hy,X0 ok' hx' hy']at R2
 have i2:Dt (jl ((n+k':Nat):Int) k τ (jl n k' τ' σ)):=by
  refine zU ht (zU ht' hi f2) fun t h=> ?_
  unfold fF at h;rw[dQ (by unfold fF;omega)];exact hf t (by omega)
 have c:=DZ (φ:=SG.g n x' y' φ') (ψ:=SG.g ((n+k':Nat):Int) x y φ) (SG.dist hxy' d') (SG.dist hxy d) i2 (QN ok' hx' hy' hx hy (Ne.symm h1) (Ne.symm h3) (Ne.symm h2) (Ne.symm h4));rw[c]at R2;exact R2
instance (kv:List (Int×Bool))(xs:List ak)(p:aC):Decidable (Live (Gone kv) xs p):=by unfold Live Gone;exact inferInstance
def wires(kv:List (Int×Bool))(xs:List ak):Wi:=fun t=>if t.1=false/\Live (Gone kv) xs t.2 then some (false,ay xs t.2)else none
theorem Zch{t s:VP}:∀{φ:GL} {σ:Wi},(∀e∈φ,t≠e.1/\t≠e.2/\s≠e.1/\s≠e.2)->σ t=some s->iT φ σ t=some s
 |[],_,_,h=>h
 |e::φ,σ,ha,h=>by
  obtain⟨a1,a2,a3,a4⟩:=ha e (List.mem_cons_self ..);refine Zch (φ:=φ) (fun f hf=>ha f (List.mem_cons_of_mem _ hf)) ?_;show glue e.1 e.2 σ t=some s;unfold glue;rw[h]
  grind
section
variable {kv:kT}{D:Int->Prop}{xs ys:aS}{c x y c' x' y':Int}{bk:iQ}{σ:Wi}
theorem Twin.rel(h:Twin kv xs ys):Rel xs (Live (Gone kv) xs) yx (wires kv xs):=by
 have w:=h.st.wi;refine⟨fun p hp=>hp.1,fun p hp=>hp.elim,fun p hp _=> ?_,fun p hp=>hp.elim,fun p hp=> ?_,fun p _=> ?_,fun p q hpq=> ?_⟩
 .unfold wires;rw[if_pos ⟨rfl,hp⟩]
 .unfold wires;rw[if_neg fun e=>hp e.2]
 .unfold wires;rw[if_neg fun e=>by cases e.1]
 .unfold wires at hpq |-;split at hpq
  .rename_i hp;obtain⟨w1,w2,w3,w4⟩:=w p.2 hp.2;have e:(false,ay xs p.2)=q:=by simpa using hpq
   subst e;rw[if_pos ⟨rfl,w2⟩];obtain⟨b,p⟩:=p;simp only at*;rw[w3];refine⟨by rw[hp.1],fun e=>w4 ?_⟩;simpa using congrArg Prod.snd e
  .cases hpq
structure Ms(bk:List (List ak))(D:Int->Prop)(xs:List ak)(c x y:Int):Prop where
 k:iw D xs x y
 hr:rule (ah xs x).1 (ah xs x).2.1 (ah xs y).1 (ah xs y).2.1=c
 hc:1<=c/\c<=7
 cl:eO (ah xs x) (ah xs y)=false
 h7:c=7->(ah xs x).2.2.1<(bk.length:Nat)/\eX (ah xs x).2.1 (bG bk (ah xs x).2.2.1)=true
 rx:(ah xs x).1≠1
 ry:(ah xs y).1≠1
theorem Twin.Uc(h:Twin kv xs ys)(I:Ms bk (Gone kv) xs c x y)(hb:BkV bk)(hR:Rel xs (Live (Gone kv) xs) yx σ):YU bk (Gone kv) xs c x y σ:=
 QU hR I.k (fun i hi=>(h.dl i hi).2) h.wf I.hr I.hc hb.toBkW fun e=>(I.h7 e).1
theorem C8(kv:kT)(c x y:Int):Gone (fU kv (bR c x y))=fun i=>Gone kv i\/i∈bR c x y:=funext fun i=>propext (jB kv _ i)
theorem C9{i:Int}(h:i∈bR c x y):i=x\/i=y:=by
 unfold bR at h;cases hq:c==7 with
 |true=>rw[hq,qG,qX]at h;exact .inl h
 |false=>rw[hq,qH]at h;simpa using h
theorem Twin.Ag(h:Twin kv xs ys)(I:Ms bk (Gone kv) xs c x y)(hb:BkV bk):Twin (fU kv (bR c x y)) (aW bk xs c x y) (dX bk ys c x y)/\(aW bk xs c x y).length=xs.length+(lH bk xs c x y).length:=by
 obtain⟨_,_,_,t,l⟩:=h.next I.k hb I.rx I.ry I.hr I.hc I.cl I.h7;exact⟨t,l⟩
structure Four(x y x' y':Int):Prop where
 a:x≠x'
 b:x≠y'
 c:y≠x'
 d:y≠y'
theorem Four.symm(h:Four x y x' y'):Four x' y' x y:=⟨h.a.symm,h.c.symm,h.b.symm,h.d.symm⟩
theorem pU(I:Ms bk D xs c x y){i:Int}(h0:0<=i)(h1:i<(xs.length:Nat)):sig (ah (aW bk xs c x y) i)=sig (ah xs i):=by
 have sg:=nQ (bk:=bk) (xs:=xs) (x:=x) (y:=y) I.hc (by have:=I.k.px.2.1;have:=I.k.px.1;simp only at*;omega);have hl:=sg.1;rw[qA]at hl;have:=sg.2 i h0 (by rw[hl];omega)
 rwa[bZ (by omega)]at this
theorem Ms.sigs{xs xs':aS}{D D':Int->Prop}(I:Ms bk D xs c x y)(k:iw D' xs' x y)(ex:sig (ah xs' x)=sig (ah xs x))(ey:sig (ah xs' y)=sig (ah xs y)):Ms bk D' xs' c x y:=by
 have x1:(ah xs' x).1=(ah xs x).1:=congrArg (fun s:oU=>s.1) ex;have x2:(ah xs' x).2.1=(ah xs x).2.1:=congrArg (fun s:oU=>s.2.1) ex;have x3:(ah xs' x).2.2.1=(ah xs x).2.2.1:=congrArg (fun s:oU=>s.2.2.1) ex;have y1:(ah xs' y).1=(ah xs y).1:=congrArg (fun s:oU=>s.1) ey;have y2:(ah xs' y).2.1=(ah xs y).2.1:=congrArg (fun s:oU=>s.2.1) ey;have y4:(ah xs' y).2.2.2.1=(ah xs y).2.2.2.1:=congrArg (fun s:oU=>s.2.2.2.1) ey;refine⟨k,by rw[x1,x2,y1,y2];exact I.hr,I.hc,?_,by rw[x2,x3];exact I.h7,by rw[x1];exact I.rx,by rw[y1];exact I.ry⟩
 have:=I.cl;unfold eO at this |-;rw[x1,y1,x3,y4];exact this
theorem Twin.later(h:Twin kv xs ys)(I:Ms bk (Gone kv) xs c x y)(J:Ms bk (Gone kv) xs c' x' y')(hb:BkV bk)(f:Four x y x' y'):Ms bk (Gone (fU kv (bR c x y))) (aW bk xs c x y) c' x' y':=by
 have x0:=I.k.px.1;have x1:=I.k.px.2.1;have y0:=I.k.py.1;have y1:=I.k.py.2.1;have x0':=J.k.px.1;have x1':=J.k.px.2.1;have y0':=J.k.py.1;have y1':=J.k.py.2.1;simp only at x0 x1 y0 y1 x0' x1' y0' y1';have ex:=pU I x0' x1';have ey:=pU I y0' y1';have R:=h.rel;have Q:=h.Uc I hb R;obtain⟨T1,l1⟩:=h.Ag I hb
 have lx:¬Gone (fU kv (bR c x y)) x':=fun e=>by
  rcases(jB kv _ _).1 e with e|e
  .exact J.k.lx e
  .rcases C9 e with e|e
   .exact f.a e.symm
   .exact f.c e.symm
 have ly:¬Gone (fU kv (bR c x y)) y':=fun e=>by
  rcases(jB kv _ _).1 e with e|e
  .exact J.k.ly e
  .rcases C9 e with e|e
   .exact f.b e.symm
   .exact f.d e.symm
 have px:aj (aW bk xs c x y) (x',0):=by
  refine⟨x0',by simp only;omega,Int.le_refl 0,?_⟩;have e:(ah (aW bk xs c x y) x').aO.length=(ah xs x').aO.length:=congrArg (fun s:oU=>s.2.2.2.2) ex;have:=J.k.px.2.2.2;simp only at this |-;rw[e];exact this
 have py:aj (aW bk xs c x y) (y',0):=by
  refine⟨y0',by simp only;omega,Int.le_refl 0,?_⟩;have e:(ah (aW bk xs c x y) y').aO.length=(ah xs y').aO.length:=congrArg (fun s:oU=>s.2.2.2.2) ey;have:=J.k.py.2.2.2;simp only at this |-;rw[e];exact this
 refine J.sigs ⟨J.k.ne,lx,ly,px,py,?_⟩ ex ey;have r1:=Q.rel.re (x',0) (by rw[<-C8];exact⟨px,lx⟩) id;have r0:=R.re (x',0) ⟨J.k.px,J.k.lx⟩ id;rw[J.k.w]at r0
 have key:∀z:Int,x≠z->y≠z->∀e∈SG.g (xs.length:Nat) x y (Gb bk c (ah xs x) (ah xs y)),((false,(z,0)):VP)≠e.1/\((false,(z,0)):VP)≠e.2:=fun z h1 h2 e he=>by
  obtain⟨g, -,rfl⟩:=List.mem_map.1 he
  have kk:∀p:SP,((false,(z,0)):VP)≠p.v (xs.length:Nat) x y:=fun p e=>by
   cases p<;>simp only[SP.v,Prod.mk.injEq]at e
   .exact h1 e.2.1.symm
   .exact h2 e.2.1.symm
   .cases e.1
  exact⟨kk _,kk _⟩
 have r2:=Zch (φ:=SG.g (xs.length:Nat) x y (Gb bk c (ah xs x) (ah xs y))) (σ:=jl (xs.length:Nat) (CG bk c (ah xs x) (ah xs y)) (Mc bk c (ah xs x) (ah xs y)) (wires kv xs)) (t:=(false,(x',0))) (s:=(false,(y',0)))
  (fun e he=>⟨(key x' f.a f.c e he).1,(key x' f.a f.c e he).2,(key y' f.b f.d e he).1,(key y' f.b f.d e he).2⟩) (by rw[dQ (by unfold fF;simp only;omega)];exact r0)
 rw[r2]at r1;simpa using r1.symm
end
end Go.Tr
namespace Go.Tr
open Go Go.RowKit
section
variable {kv:kT}{xs ys:aS}{c x y c' x' y':Int}{bk:iQ}
theorem Ld{u v u' v':ak}(hu:sig u=sig u')(hv:sig v=sig v'):CG bk c u v=CG bk c u' v'/\Mc bk c u v=Mc bk c u' v'/\Gb bk c u v=Gb bk c u' v':=by
 unfold sig at hu hv;simp only[Prod.mk.injEq]at hu hv;obtain⟨u1,u2,u3,u4,u5⟩:=hu;obtain⟨v1,v2,v3,v4,v5⟩:=hv;have ku:pQ u=pQ u':=u5;have kv:pQ v=pQ v':=v5;unfold CG Mc Gb lsN Qm;rw[u1,u2,u3,ku,v1,kv];exact⟨rfl,rfl,rfl⟩
theorem Mj(T:Twin kv xs ys)(I:Ms bk (Gone kv) xs c x y)(J:Ms bk (Gone kv) xs c' x' y')(hb:BkV bk)(f:Four x y x' y'):
  (aW bk (aW bk xs c x y) c' x' y').map sig=xs.map sig++(lI bk c (ah xs x) (ah xs y)).map sig++(lI bk c' (ah xs x') (ah xs y')).map sig:=by
 have K:=T.later I J hb f;have h1:=(nQ (bk:=bk) (xs:=xs) (x:=x) (y:=y) I.hc (by have:=I.k.px.2.1;have:=I.k.px.1;simp only at*;omega)).maps;have h2:=(nQ (bk:=bk) (xs:=aW bk xs c x y) (x:=x') (y:=y') K.hc (by have:=K.k.px.2.1;have:=K.k.px.1;simp only at*;omega)).maps;rw[h2,qZ,h1,qZ,wV,wV];rw[BD (pU I J.k.px.1 J.k.px.2.1) (pU I J.k.py.1 J.k.py.2.1)]
theorem Qh{zs:aS}{S:List oU}(h:zs.map sig=S){i:Int}(h0:0<=i)(h1:i<(zs.length:Nat)):S[i.toNat]? =some (sig (ah zs i)):=by
 rw[<-h,qY];unfold ah elt;rw[qC,qB (by omega)];rfl
theorem RL{A B C:List oU}{i:Int}(h0:0<=i)(h1:i<((A.length+B.length+C.length:Nat):Int)):(A++C++B)[(lq A.length B.length C.length i).toNat]? =(A++B++C)[i.toNat]? :=by
 have hl:(A++B).length=A.length+B.length:=qA;have hl2:(A++C).length=A.length+C.length:=qA
 by_cases c1:i<(A.length:Nat)
 .rw[ni c1,qM (by omega),qM (by omega),qM (by omega),qM (by omega)]
 .by_cases c2:i<(A.length:Int)+B.length
  .obtain⟨j,rfl⟩:∃j:Nat,i=(A.length:Int)+j:=⟨(i-A.length).toNat,by omega⟩;rw[Av (by omega),qL (by omega),qM (by omega),qL (by omega)]
   congr 1
   omega
  .obtain⟨j,rfl⟩:∃j:Nat,i=((A.length+B.length:Nat):Int)+j:=⟨(i-A.length-B.length).toNat,by omega⟩;rw[Aw (by omega),qM (by omega),qL (by omega),qL (by omega)]
   congr 1
   omega
theorem Yc{n k k':Nat}{i:Int}(h0:0<=i)(h1:i<((n+k+k':Nat):Int)):0<=lq n k k' i/\lq n k k' i<((n+k+k':Nat):Int):=by
 unfold lq
 (repeat' split)<;>omega
structure Swap(bk:List (List ak))(ys:List ak)(c x y c' x' y':Int)(n k k':Nat):Prop where
 n_:ys.length=n
 l1:(dX bk ys c x y).length=n+k
 l2:(dX bk ys c' x' y').length=n+k'
 l12:(dX bk (dX bk ys c x y) c' x' y').length=n+k+k'
 l21:(dX bk (dX bk ys c' x' y') c x y).length=n+k+k'
 at_:∀i:Int,0<=i->i<((n+k+k':Nat):Int)->ah (dX bk (dX bk ys c' x' y') c x y) (lq n k k' i)=Gn (lq n k k') (ah (dX bk (dX bk ys c x y) c' x' y') i)
theorem RJ(T:Twin kv xs ys)(I:Ms bk (Gone kv) xs c x y)(J:Ms bk (Gone kv) xs c' x' y')(hb:BkV bk)(f:Four x y x' y'):
  Swap bk ys c x y c' x' y' xs.length (lI bk c (ah xs x) (ah xs y)).length (lI bk c' (ah xs x') (ah xs y')).length:=by
 have x0:=I.k.px.1;have x1:=I.k.px.2.1;have y0:=I.k.py.1;have y1:=I.k.py.2.1;have x0':=J.k.px.1;have x1':=J.k.px.2.1;have y0':=J.k.py.1;have y1':=J.k.py.2.1;simp only at x0 x1 y0 y1 x0' x1' y0' y1';have K:=T.later I J hb f;have K':=T.later J I hb f.symm;obtain⟨T1,e1⟩:=T.Ag I hb;obtain⟨T2,e2⟩:=T.Ag J hb;obtain⟨T12,e12⟩:=T1.Ag K hb;obtain⟨T21,e21⟩:=T2.Ag K' hb;have R:=T.rel;have Q1:=T.Uc I hb R;have Q2:=T.Uc J hb R;have R1:=Q1.rel;rw[<-C8]at R1;have R2:=Q2.rel;rw[<-C8]at R2;have Q12:=T1.Uc K hb R1
 have Q21:=T2.Uc K' hb R2;have S12:=Mj T I J hb f;have S21:=Mj T J I hb f.symm;obtain⟨m1,m2,m3⟩:=Ld (bk:=bk) (c:=c') (pU I x0' x1') (pU I y0' y1');obtain⟨m4,m5,m6⟩:=Ld (bk:=bk) (c:=c) (pU J x0 x1) (pU J y0 y1);have k1:CG bk c (ah xs x) (ah xs y)=(lI bk c (ah xs x) (ah xs y)).length:=by rw[Q1.num,<-qV (f:=sig),wV,qV]
 have k2:CG bk c' (ah xs x') (ah xs y')=(lI bk c' (ah xs x') (ah xs y')).length:=by rw[Q2.num,<-qV (f:=sig),wV,qV]
 have t1:=Q1.tok;have t2:=Q2.tok;have g1:=Q1.gok;have g2:=Q2.gok;have W12:=Q12.rel;have W21:=Q21.rel;rw[m1,m2,m3,e1,<-Q1.num]at W12;rw[m4,m5,m6,e2,<-Q2.num]at W21;rw[<-C8]at W12 W21
 have hf:∀t:VP,((xs.length:Nat):Int)<=t.2.1->wires kv xs t=none:=fun t ht=>by
  unfold wires;rw[if_neg fun e=>by have:=e.2.1.2.1;omega]
 have SW:=Ob t1 t2 g1 g2 (KT bk c _ _) (KT bk c' _ _) hf R.wi x1 y1 x1' y1' I.k.ne J.k.ne f.a f.b f.c f.d;rw[k1,k2]at W12 W21 SW;generalize hk:(lI bk c (ah xs x) (ah xs y)).length=k at*;generalize hk':(lI bk c' (ah xs x') (ah xs y')).length=k' at*;have n1:(lH bk xs c x y).length=k:=by rw[<-Q1.num,k1]
 have n2:(lH bk xs c' x' y').length=k':=by rw[<-Q2.num,k2]
 have L12:(aW bk (aW bk xs c x y) c' x' y').length=xs.length+k+k':=by
  have:=congrArg List.length S12;rw[qV,qA,qA,qV,qV,qV,hk,hk']at this;exact this
 have L21:(aW bk (aW bk xs c' x' y') c x y).length=xs.length+k+k':=by
  have:=congrArg List.length S21;rw[qV,qA,qA,qV,qV,qV,hk,hk']at this;omega
 refine⟨T.len.symm,by rw[<-T1.len,e1,n1],by rw[<-T2.len,e2,n2],by rw[<-T12.len,L12],by rw[<-T21.len,L21],fun i h0 h1=> ?_⟩
 have hg:∀i,Gone (fU (fU kv (bR c' x' y')) (bR c x y)) i↔Gone (fU (fU kv (bR c x y)) (bR c' x' y')) i:=fun i=>by
  rw[jB,jB,jB,jB];constructor
  .rintro((h|h)|h);exact .inl (.inl h);exact .inr h;exact .inl (.inr h)
  .rintro((h|h)|h);exact .inl (.inl h);exact .inr h;exact .inl (.inr h)
 have hgl:∀i,Gone (fU (fU kv (bR c x y)) (bR c' x' y')) i->i<(xs.length:Nat):=fun i hi=>by
  rcases(jB _ _ _).1 hi with h|h
  .rcases(jB _ _ _).1 h with h|h
   .exact(T.dl i h).2
   .rcases C9 h with e|e<;>omega
  .rcases C9 h with e|e<;>omega
 by_cases hd:Gone (fU (fU kv (bR c x y)) (bR c' x' y')) i
 .rw[ni (hgl i hd),(T12.hole i hd).2,(T21.hole i ((hg i).2 hd)).2];rfl
 .have hd2:¬Gone (fU (fU kv (bR c' x' y')) (bR c x y)) (lq xs.length k k' i):=fun e=>by
   have e2:=(hg _).1 e;have e3:=hgl _ e2
   have e4:lq xs.length k k' i=i:=by
    have:=Ql xs.length k k' i;rw[ni e3]at this;exact this
   rw[e4]at e2;exact hd e2
  obtain⟨r0,r1⟩:=Yc h0 h1;rw[T12.at_ h0 (by omega) hd,T21.at_ r0 (by omega) hd2]
  have hs:sig (ah (aW bk (aW bk xs c' x' y') c x y) (lq xs.length k k' i))=sig (ah (aW bk (aW bk xs c x y) c' x' y') i):=by
   have a1:=Qh S12 h0 (by omega);have a2:=Qh S21 r0 (by omega);have a3:=RL (A:=xs.map sig) (B:=(lI bk c (ah xs x) (ah xs y)).map sig) (C:=(lI bk c' (ah xs x') (ah xs y')).map sig) h0 (by rw[qV,qV,qV,hk,hk'];exact h1);rw[qV,qV,qV,hk,hk',a1,a2]at a3;simpa using a3
  have hp:∀s:Nat,s<(ah (aW bk (aW bk xs c x y) c' x' y') i).aO.length->ay (aW bk (aW bk xs c' x' y') c x y) (lq xs.length k k' i,(s:Int))=uN (lq xs.length k k') (ay (aW bk (aW bk xs c x y) c' x' y') (i,(s:Int))):=fun s hs2=>by
   have hs3:(ah (aW bk (aW bk xs c' x' y') c x y) (lq xs.length k k' i)).aO.length=(ah (aW bk (aW bk xs c x y) c' x' y') i).aO.length:=congrArg (fun s:oU=>s.2.2.2.2) hs;have a1:=W12.re (i,(s:Int)) ⟨⟨h0,by simp only;omega,by simp only;omega,by simp only;omega⟩,hd⟩ id;have a2:=W21.re (lq xs.length k k' i,(s:Int)) ⟨⟨r0,by simp only;omega,by simp only;omega,by simp only;omega⟩,hd2⟩ id;have a3:=SW (false,(i,(s:Int)));rw[a1]at a3;have a4:yh (lq xs.length k k') (false,(i,(s:Int)))=(false,(lq xs.length k k' i,(s:Int))):=rfl
   rw[a4,a2]at a3;have a5:((false,ay (aW bk (aW bk xs c' x' y') c x y) (lq xs.length k k' i,(s:Int))):VP)=yh (lq xs.length k k') (false,ay (aW bk (aW bk xs c x y) c' x' y') (i,(s:Int))):=by simpa using a3
   exact congrArg Prod.snd a5
  have hA:∀s:Nat,s<(ah (aW bk (aW bk xs c x y) c' x' y') i).aO.length->elt (dflt aK) (ah (aW bk (aW bk xs c' x' y') c x y) (lq xs.length k k' i)).aO (s:Nat)=uN (lq xs.length k k') (elt (dflt aK) (ah (aW bk (aW bk xs c x y) c' x' y') i).aO (s:Nat)):=hp;generalize ah (aW bk (aW bk xs c' x' y') c x y) (lq xs.length k k' i)=A at*;generalize ah (aW bk (aW bk xs c x y) c' x' y') i=B at*;obtain⟨a1,a2,a3,a4,a5⟩:=A;obtain⟨b1,b2,b3,b4,b5⟩:=B;unfold sig at hs;simp only[Prod.mk.injEq]at hs;obtain⟨s1,s2,s3,s4,s5⟩:=hs
  unfold Gn;simp only[Prod.mk.injEq];refine⟨s1,s2,s3,s4,List.ext_getElem (by rw[qV];exact s5) fun s hs1 hs2=> ?_⟩;rw[qV]at hs2;have:=hA s hs2;simp only[elt,qK,qC]at this;rw[qB hs1,qB hs2]at this;rw[List.getElem_map];exact this
end
end Go.Tr
