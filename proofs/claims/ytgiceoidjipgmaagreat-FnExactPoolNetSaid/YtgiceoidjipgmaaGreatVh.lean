
/- Regions whose order is open, by the flow of things: a valuation of any kind. No program in it. -/
import Derived.Test.YtgiceoidjipgmaaGreatShort
import Derived.Test.YtgiceoidjipgmaaGreatSc
set_option linter.unusedSimpArgs false
set_option linter.unusedVariables false
namespace Go.Tr
open Go Go.RowKit
structure JC where
 prod:Option Nat
 cons:Option Nat
structure gL where
 rds:List (List Nat)
 labs:List JC
 anc:List (List Nat)
def kR(fl:gL)(ops:Array Oper)(n i:Nat)(o:Oper)(A rd:List Nat):Bool:=
 o.after.all (fun e=> !Region.binds .any e||Nat.blt e.on i)&&
 A.all (fun j=>o.after.any fun e=>Region.binds .any e&&(e.on==j||Am fl.anc[e.on]? j))&&
 rd.all (fun ℓ=>match fl.labs[ℓ]? with
  |some b=>b.prod.all (fun p=>A.contains p)&&b.cons.all (fun c=>Am fl.anc[c]? i)
  |none=>false)&&
 (match o.dst with
  |some d=>Nat.blt d n&&(List.range ops.size).all (fun j=>j==i||(ops[j]?).bind (·.dst) !=some d)
  |none=>true)
def ko(fl:gL)(m:Nat)(b:JC):Bool:=
 (match b.prod with
  |none=>true
  |some p=>Nat.blt p m)&&
 (match b.cons with
  |none=>true
  |some c=>Nat.blt c m&& !(b.prod==some c)&&b.prod.all (fun p=>Am fl.anc[c]? p))
def gL.good(fl:gL)(ops:Array Oper)(n:Nat):Bool:=
 fl.rds.length==ops.size&&fl.anc.length==ops.size&&
 (List.range ops.size).all (fun i=>match ops[i]?,fl.anc[i]?,fl.rds[i]? with
  |some o,some A,some s=>kR fl ops n i o A s
  |_,_,_=>false)&&
 fl.labs.all (ko fl ops.size)
def gL.av(fl:gL)(L:Array Bool)(ℓ:Nat):Bool:=match fl.labs[ℓ]? with
 |some b=>b.prod.all (fun p=>L.getD p false)&&b.cons.all (fun c=> !L.getD c false)
 |none=>false
def gL.jS(s:List Nat)(ℓ:Nat):Bool:=s.contains ℓ
def gL.fM(fl:gL)(i ℓ:Nat):Bool:=match fl.labs[ℓ]? with|some b=>b.cons==some i|none=>false
def gL.iI(fl:gL)(i ℓ:Nat):Bool:=match fl.labs[ℓ]? with|some b=>b.prod==some i|none=>false
def gL.Cj(fl:gL)(ℓ:Nat):Bool:=match fl.labs[ℓ]? with|some b=>b.prod.isNone|none=>false
def gL.isFin(fl:gL)(ℓ:Nat):Bool:=match fl.labs[ℓ]? with|some b=>b.cons.isNone|none=>false
section
variable {ρ:Type}{P:Program}{ops:Array Oper}{fl:gL}{n:Nat}{w0:ρ→World}{F0:ρ→List Nat}{K C:Nat→ρ→Act→Prop}{B:ρ→Act→Prop}{R:Nat→ρ→dK}{Up:Nat→ρ→ρ→Prop}{fr:List dK}
def kC(fl:gL)(R:Nat→ρ→dK)(r:ρ)(p:Nat→Bool):List dK:=((List.range fl.labs.length).filter p).map (fun ℓ=>R ℓ r)
def PJ(ops:Array Oper)(fl:gL)(n:Nat)(w0:ρ→World)(F0:ρ→List Nat)(K C:Nat→ρ→Act→Prop)(B:ρ→Act→Prop)(R:Nat→ρ→dK)(fr:List dK)(L:Array Bool)(a:Act)(w:World):Prop:=∃r:ρ,
 (∀i,i<ops.size→L.getD i false=true→K i r a)∧(∀i,i<ops.size→L.getD i false=false→C i r a)∧B r a∧a.tmps.size=n∧a.defers=[]∧Inv (w0 r) (F0 r) w (kC fl R r (fl.av L)++fr)
def MB(P:Program)(ops:Array Oper)(fl:gL)(n:Nat)(w0:ρ→World)(F0:ρ→List Nat)(K C:Nat→ρ→Act→Prop)(B:ρ→Act→Prop)(R:Nat→ρ→dK)(Up:Nat→ρ→ρ→Prop)(i:Nat):Prop:=
 ∀o A rd,ops[i]? =some o→fl.anc[i]? =some A→fl.rds[i]? =some rd→∀(r:ρ) (a:Act) (w:World) (R':List dK),B r a→a.tmps.size=n→a.defers=[]→(∀j∈A,K j r a)→(∀j,j<ops.size→(j=i∨∃D,fl.anc[j]? =some D∧i∈D)→C j r a)→Inv (w0 r) (F0 r) w (kC fl R r (gL.jS rd)++(kC fl R r (fl.fM i)++R'))→
  Gives P ops o a w fun v w'=>∃r',Up i r r'∧K i r' (a.put o.dst v)∧B r' (a.put o.dst v)∧Inv (w0 r') (F0 r') w' (kC fl R r' (gL.jS rd)++(kC fl R r' (fl.iI i)++R'))
structure GJ(ops:Array Oper)(fl:gL)(K C:Nat→ρ→Act→Prop)(R:Nat→ρ→dK)(Up:Nat→ρ→ρ→Prop):Prop where
 k:∀i j A o r r' a v,ops[i]? =some o→fl.anc[j]? =some A→i≠j→i∉A→Up i r r'→K j r a→K j r' (a.put o.dst v)
 c:∀i j o r r' a v,ops[i]? =some o→j<ops.size→i≠j→Up i r r'→C j r a→C j r' (a.put o.dst v)
 l:∀i ℓ b r r',fl.labs[ℓ]? =some b→(∀p,b.prod=some p→p≠i∧∀A,fl.anc[p]? =some A→i∉A)→Up i r r'→∀w F,(R ℓ r).p w F→(R ℓ r').p w F
theorem lF(hg:fl.good ops n=true){i:Nat}{o:Oper}(ho:ops[i]? =some o):∃A s,fl.anc[i]? =some A∧fl.rds[i]? =some s∧kR fl ops n i o A s=true:=by
 unfold gL.good at hg;simp only[Bool.and_eq_true,List.all_eq_true]at hg;have hi:=(Array.getElem?_eq_some_iff.1 ho).1;have h:=hg.1.2 i (by simpa using hi);rw[ho]at h;cases hA:fl.anc[i]? with
 |none=>rw[hA]at h;simp at h
 |some A=>
  cases hs:fl.rds[i]? with
  |none=>rw[hA,hs]at h;simp at h
  |some s=>rw[hA,hs]at h;exact⟨A,s,rfl,rfl,h⟩
theorem mK(hg:fl.good ops n=true){ℓ:Nat}{b:JC}(hb:fl.labs[ℓ]? =some b):ko fl ops.size b=true:=by
 unfold gL.good at hg;simp only[Bool.and_eq_true,List.all_eq_true]at hg;exact hg.2 b (List.mem_of_getElem? hb)
theorem uK(hg:fl.good ops n=true){L:Array Bool}(hc:Closed .any ops L):∀(i:Nat) (o:Oper) (A:List Nat),ops[i]? =some o→fl.anc[i]? =some A→(∀e∈o.after,Region.binds .any e=true→L.getD e.on false=true)→∀j∈A,L.getD j false=true:=by
 intro i
 induction i using Nat.strongRecOn with
 |_ i ih=>
  intro o A ho hA hall j hj;obtain⟨A',s,hA',hs,hgd⟩:=lF hg ho;rw[hA]at hA';injection hA' with hA'
  subst hA';unfold kR at hgd;simp only[Bool.and_eq_true,List.all_eq_true]at hgd;have h2:=hgd.1.1.2 j hj;rw[Array.any_eq_true']at h2;obtain⟨e,he,h3⟩:=h2;rw[Bool.and_eq_true,Bool.or_eq_true,beq_iff_eq]at h3;have hl:=hall e he h3.1;rcases h3.2 with h4|h4
  ·rw[←h4];exact hl
  ·obtain⟨D,hD,hjD⟩:=kQ h4
   have hlt:e.on<i:=by
    have h5:=hgd.1.1.1;rw[Array.all_eq_true_iff_forall_mem]at h5;have:=h5 e he;rw[h3.1]at this;simpa using this
   have hsz:e.on<ops.size:=by
    have:=(Array.getElem?_eq_some_iff.1 ho).1;omega
   exact ih e.on hlt ops[e.on] D (Array.getElem?_eq_getElem hsz) hD (hc e.on _ (Array.getElem?_eq_getElem hsz) hl) j hjD
theorem Cy(R:Nat→ρ→dK){r r':ρ}{w:World}:∀{l:List Nat},(∀ℓ∈l,∀F,(R ℓ r).p w F→(R ℓ r').p w F)→∀{X:List dK} {w1:World} {F1:List Nat},Inv w1 F1 w (l.map (fun ℓ=>R ℓ r)++X)→Inv w1 F1 w (l.map (fun ℓ=>R ℓ r')++X)
 |[],_,X,w1,F1,h=>h
 |ℓ::l,hk,X,w1,F1,h=>by
  have h1:Inv w1 F1 w (R ℓ r'::(l.map (fun ℓ=>R ℓ r)++X)):=Inv.weak h fun F hp=>⟨F,fun _ h=>h,hk ℓ (by simp) F hp⟩
  have h2:=Cy R (r:=r) (r':=r') (fun ℓ hℓ=>hk ℓ (by simp[hℓ])) (X:=R ℓ r'::X) (h1.perm List.perm_middle.symm);exact h2.perm List.perm_middle
theorem JB(hg:fl.good ops n=true)(hst:GJ ops fl K C R Up){L:Array Bool}(hL:L.size=ops.size)(hc:Closed .any ops L){a:Act}{w:World}(hJ:PJ ops fl n w0 F0 K C B R fr L a w){i:Nat}(hr:i∈Region.ready .any ops L)(hob:MB P ops fl n w0 F0 K C B R Up i)(Q:Exit→Act→World→Prop):
  wpOp P ops Q i (fun a' w'=>PJ ops fl n w0 F0 K C B R fr (L.setIfInBounds i true) a' w') a w:=by
 obtain⟨hun,o,ho,hall⟩:=mem_ready.1 hr;have hun':=Al hun;obtain⟨A,s,hA,hs,hgd⟩:=lF hg ho;have hancL:=uK hg hc i o A ho hA hall;obtain⟨r,h1,hC0,hB,hsz,hdf,hI⟩:=hJ;have hisz:i<L.size:=by rw[hL];exact(Array.getElem?_eq_some_iff.1 ho).1
 unfold kR at hgd;simp only[Bool.and_eq_true,List.all_eq_true]at hgd;obtain⟨⟨⟨hlt,hanc⟩,hrd⟩,hdst⟩:=hgd
 have hnot:∀(c:Nat) (oc:Oper) (D:List Nat),ops[c]? =some oc→fl.anc[c]? =some D→i∈D→L.getD c false=false:=by
  intro c oc D hoc hD hiD;cases hcl:L.getD c false with
  |false=>rfl
  |true=>
   have:=uK hg hc c oc D hoc hD (hc c oc hoc hcl) i hiD;rw[hun']at this;cases this
 have hopsOf:∀c,c<ops.size→∃oc,ops[c]? =some oc:=fun c h=>⟨_,Array.getElem?_eq_getElem h⟩
 have hperm:((List.range fl.labs.length).filter (fl.av L)).Perm ((List.range fl.labs.length).filter (gL.jS s)++((List.range fl.labs.length).filter (fl.fM i)++(List.range fl.labs.length).filter (fun ℓ=>fl.av L ℓ&& !gL.jS s ℓ&& !fl.fM i ℓ))):=by
  refine Ac _ _ _ _ _ fun ℓ hℓ=> ?_
  have hℓ':ℓ<fl.labs.length:=by simpa using hℓ
  have hb:fl.labs[ℓ]? =some fl.labs[ℓ]:=List.getElem?_eq_getElem hℓ';have hbg:=mK hg hb
  have k1:gL.jS s ℓ=true→fl.av L ℓ=true∧fl.fM i ℓ=false:=fun hr=>by
   unfold gL.jS at hr;have h3:=hrd ℓ (by simpa using hr);rw[hb]at h3;simp only[Bool.and_eq_true]at h3;refine⟨?_,?_⟩
   ·unfold gL.av;rw[hb];simp only[Bool.and_eq_true];refine⟨?_,?_⟩
    ·cases hp:fl.labs[ℓ].prod with
     |none=>rfl
     |some p=>
      rw[hp]at h3;exact hancL p (by simpa using h3.1)
    ·cases hq:fl.labs[ℓ].cons with
     |none=>rfl
     |some c=>
      rw[hq]at h3;obtain⟨D,hD,hiD⟩:=kQ h3.2;unfold ko at hbg;simp only[hq,Bool.and_eq_true]at hbg;obtain⟨oc,hoc⟩:=hopsOf c (by simpa using hbg.2.1.1);simp[hnot c oc D hoc hD hiD, -Array.getD_eq_getD_getElem?]
   ·unfold gL.fM;rw[hb];show(fl.labs[ℓ].cons==some i)=false;cases hq:fl.labs[ℓ].cons with
    |none=>rfl
    |some c=>
     rw[hq]at h3;obtain⟨D,hD,hiD⟩:=kQ h3.2;simp only[beq_eq_false_iff_ne,ne_eq,Option.some.injEq];rintro rfl;rw[hA]at hD;injection hD with hD
     subst hD;have:=hancL c hiD;rw[hun']at this;cases this
  have k2:fl.fM i ℓ=true→fl.av L ℓ=true:=fun hr=>by
   unfold gL.fM at hr;rw[hb]at hr;have hq:fl.labs[ℓ].cons=some i:=by simpa using hr
   unfold ko at hbg;simp only[hq,Bool.and_eq_true]at hbg;unfold gL.av;rw[hb];simp only[hq,Bool.and_eq_true,Option.all_some,hun',Bool.not_false,and_true];cases hp:fl.labs[ℓ].prod with
   |none=>rfl
   |some p=>
    rw[hp]at hbg;obtain⟨D,hD,hpD⟩:=kQ hbg.2.2;rw[hA]at hD;injection hD with hD
    subst hD;exact hancL p hpD
  cases e1:gL.jS s ℓ<;>cases e2:fl.fM i ℓ<;>cases e3:fl.av L ℓ<;>simp_all
 have hI2:Inv (w0 r) (F0 r) w (kC fl R r (gL.jS s)++(kC fl R r (fl.fM i)++(kC fl R r (fun ℓ=>fl.av L ℓ&& !gL.jS s ℓ&& !fl.fM i ℓ)++fr))):=hI.perm (by
  have h2:=(hperm.map (fun ℓ=>R ℓ r)).append_right fr;rw[List.map_append,List.map_append,List.append_assoc,List.append_assoc]at h2;exact h2)
 refine(hob o A s ho hA hs r a w _ hB hsz hdf (fun j hj=>by
  have hjs:j<ops.size:=by
   have:=hancL j hj;rcases Nat.lt_or_ge j L.size with h|h
   ·omega
   ·simp[Array.getElem?_eq_none h]at this
  exact h1 j hjs (hancL j hj)) (fun j hjs hj=>hC0 j hjs (by
  rcases hj with rfl|⟨D,hD,hm⟩
  ·exact hun'
  ·obtain⟨oj,hoj⟩:=hopsOf j hjs;exact hnot j oj D hoj hD hm)) hI2).wpOp ho fun v w' ⟨r',hU,hk,hB',hI3⟩=> ?_
 have hself:(L.setIfInBounds i true).getD i false=true:=by simp[hisz]
 have hLi:∀j,(L.setIfInBounds i true).getD j false=true→j=i∨L.getD j false=true:=fun j hj=>by
  by_cases e:j=i
  ·exact .inl e
  ·exact .inr (Ce hj e)
 refine⟨r',fun j hjs hLj=> ?_,fun j hjs hLj=> ?_,hB',?_,(by cases o.dst<;>exact hdf),?_⟩
 ·rcases hLi j hLj with rfl|hLj
  ·exact hk
  ·have hne:i≠j:=fun e=>by subst e;rw[hun']at hLj;cases hLj
   obtain⟨oj,hoj⟩:=hopsOf j hjs;obtain⟨D,sj,hD,_,_⟩:=lF hg hoj;refine hst.k i j D o r r' a v ho hD hne (fun hm=> ?_) hU (h1 j hjs hLj);have:=hnot j oj D hoj hD hm;rw[hLj]at this;cases this
 ·have hne:i≠j:=fun e=>by subst e;rw[hself]at hLj;cases hLj
  exact hst.c i j o r r' a v ho hjs hne hU (hC0 j hjs (by rw[getD_set_ne false (fun e=>hne e)]at hLj;exact hLj))
 ·cases hd:o.dst with
  |none=>exact hsz
  |some d=>show(a.tmps.setIfInBounds d v).size=n;simpa using hsz
 ·
  have hI4:Inv (w0 r') (F0 r') w' ((((List.range fl.labs.length).filter (fun ℓ=>fl.av L ℓ&& !gL.jS s ℓ&& !fl.fM i ℓ)).map (fun ℓ=>R ℓ r))++(kC fl R r' (gL.jS s)++(kC fl R r' (fl.iI i)++fr))):=hI3.perm (by
   show(kC fl R r' (gL.jS s)++(kC fl R r' (fl.iI i)++(_++fr))).Perm _;unfold kC;generalize ((List.range fl.labs.length).filter (fun ℓ=>fl.av L ℓ&& !gL.jS s ℓ&& !fl.fM i ℓ)).map (fun ℓ=>R ℓ r)=X;generalize ((List.range fl.labs.length).filter (gL.jS s)).map (fun ℓ=>R ℓ r')=Y;generalize ((List.range fl.labs.length).filter (fl.iI i)).map (fun ℓ=>R ℓ r')=Z;have e1:(Y++(Z++(X++fr)))=((Y++Z)++X)++fr:=by simp
   have e2:(X++(Y++(Z++fr)))=(X++(Y++Z))++fr:=by simp
   rw[e1,e2];exact List.perm_append_comm.append_right fr)
  have hI5:=Cy R (r:=r) (r':=r') (fun ℓ hℓ=>by
   have hℓ2:=List.mem_filter.1 hℓ;have hℓ':ℓ<fl.labs.length:=by simpa using hℓ2.1
   have hb:fl.labs[ℓ]? =some fl.labs[ℓ]:=List.getElem?_eq_getElem hℓ';have hav:=hℓ2.2;simp only[Bool.and_eq_true]at hav;have h3:=hav.1.1;unfold gL.av at h3;rw[hb]at h3;simp only[Bool.and_eq_true]at h3;refine hst.l i ℓ _ r r' hb (fun p hp=>⟨fun e=> ?_,fun D hD hm=> ?_⟩) hU w'
   ·subst e;rw[hp]at h3;simp only[Option.all_some]at h3;rw[hun']at h3;cases h3.1
   ·rw[hp]at h3;simp only[Option.all_some]at h3;have hbg:=mK hg hb;unfold ko at hbg;simp only[hp,Bool.and_eq_true]at hbg;obtain⟨op,hop⟩:=hopsOf p (by simpa using hbg.1);have:=hnot p op D hop hD hm;rw[h3.1]at this;cases this) hI4
  refine hI5.perm ?_;unfold kC
  have key:((List.range fl.labs.length).filter (fun ℓ=>fl.av L ℓ&& !gL.jS s ℓ&& !fl.fM i ℓ)++((List.range fl.labs.length).filter (gL.jS s)++(List.range fl.labs.length).filter (fl.iI i))).Perm ((List.range fl.labs.length).filter (fl.av (L.setIfInBounds i true))):=by
   refine List.Perm.trans ?_ (List.Perm.symm (Ac (fl.av (L.setIfInBounds i true)) (gL.jS s) (fl.iI i) (fun ℓ=>fl.av L ℓ&& !gL.jS s ℓ&& !fl.fM i ℓ) _ fun ℓ hℓ=> ?_))
   ·refine List.perm_append_comm.trans ?_;rw[List.append_assoc]
   ·have hℓ':ℓ<fl.labs.length:=by simpa using hℓ
    have hb:fl.labs[ℓ]? =some fl.labs[ℓ]:=List.getElem?_eq_getElem hℓ';have hbg:=mK hg hb
    have hset:∀j,(L.setIfInBounds i true).getD j false=(decide (j=i)||L.getD j false):=fun j=>by
     by_cases e:j=i
     ·subst e;rw[hself];simp
     ·rw[getD_set_ne false (fun e'=>e e'.symm)];simp[e]
    have k1:gL.jS s ℓ=true→fl.av L ℓ=true∧fl.fM i ℓ=false∧fl.iI i ℓ=false:=fun hr=>by
     have hmem:ℓ∈(List.range fl.labs.length).filter (gL.jS s):=List.mem_filter.2 ⟨hℓ,hr⟩;have hav:fl.av L ℓ=true:=(List.mem_filter.1 (hperm.mem_iff.2 (List.mem_append_left _ hmem))).2;refine⟨hav,?_,?_⟩
     ·unfold gL.jS at hr;have h3:=hrd ℓ (by simpa using hr);rw[hb]at h3;simp only[Bool.and_eq_true]at h3;unfold gL.fM;rw[hb];show(fl.labs[ℓ].cons==some i)=false;cases hq:fl.labs[ℓ].cons with
      |none=>rfl
      |some c=>
       rw[hq]at h3;obtain⟨D,hD,hiD⟩:=kQ h3.2;simp only[beq_eq_false_iff_ne,ne_eq,Option.some.injEq];rintro rfl;rw[hA]at hD;injection hD with hD
       subst hD;have:=hancL c hiD;rw[hun']at this;cases this
     ·unfold gL.av at hav;unfold gL.iI;rw[hb]at hav ⊢;simp only[Bool.and_eq_true]at hav;show(fl.labs[ℓ].prod==some i)=false;cases hp:fl.labs[ℓ].prod with
      |none=>rfl
      |some p=>
       rw[hp]at hav;simp only[beq_eq_false_iff_ne,ne_eq,Option.some.injEq];rintro rfl;have:=hav.1;simp only[Option.all_some]at this;rw[hun']at this;cases this
    have k3:fl.av (L.setIfInBounds i true) ℓ=((fl.av L ℓ&& !fl.fM i ℓ)||fl.iI i ℓ):=by
     unfold gL.av gL.fM gL.iI;rw[hb];simp only[hset];cases hp:fl.labs[ℓ].prod with
     |none=>
      cases hq:fl.labs[ℓ].cons with
      |none=>simp[-Array.getD_eq_getD_getElem?]
      |some c=>
       by_cases e:c=i
       ·subst e;simp[-Array.getD_eq_getD_getElem?]
       ·simp[e, -Array.getD_eq_getD_getElem?]
     |some p=>
      by_cases ep:p=i
      ·subst ep;cases hq:fl.labs[ℓ].cons with
       |none=>simp[-Array.getD_eq_getD_getElem?]
       |some c=>
        unfold ko at hbg;simp only[hp,hq,Bool.and_eq_true,Option.all_some]at hbg;obtain⟨D,hD,hiD⟩:=kQ hbg.2.2;obtain⟨oc,hoc⟩:=hopsOf c (by simpa using hbg.2.1.1);have h4:=hnot c oc D hoc hD hiD
        have hne:c≠p:=fun e=>by
         subst e;have:=hbg.2.1.2;simp at this
        simp[h4,hne, -Array.getD_eq_getD_getElem?]
      ·cases hq:fl.labs[ℓ].cons with
       |none=>simp[ep, -Array.getD_eq_getD_getElem?]
       |some c=>
        by_cases e:c=i
        ·subst e;simp[ep, -Array.getD_eq_getD_getElem?]
        ·have e1:(c==i)=false:=by simpa using e
         have e2:(p==i)=false:=by simpa using ep
         simp[e1,e2,e,ep, -Array.getD_eq_getD_getElem?]
    have k4:fl.iI i ℓ=true→fl.av L ℓ=false:=fun hr=>by
     unfold gL.iI at hr;rw[hb]at hr;have hp:fl.labs[ℓ].prod=some i:=by simpa using hr
     unfold gL.av;rw[hb];simp[hp,hun', -Array.getD_eq_getD_getElem?]
    rw[k3];clear hperm hI hI2 hI3 hI4 hI5 hdst hanc hlt hrd h1 hob hnot hopsOf hset hself hLi k3 hk hB hB';generalize gL.jS s ℓ=x1 at*;generalize fl.fM i ℓ=x2 at*;generalize fl.av L ℓ=x3 at*;generalize fl.iI i ℓ=x4 at*;clear hbg hb;cases x1<;>cases x2<;>cases x3<;>cases x4<;>simp at k1 k4 ⊢
  have k2:=(key.map (fun ℓ=>R ℓ r')).append_right fr;rw[List.map_append,List.map_append]at k2;simpa using k2
theorem D5{L:Array Bool}(hg:fl.good ops n=true)(hL:L.size=ops.size)(hr:Region.ready .any ops L=[]):∀i,i<ops.size→L.getD i false=true:=by
 intro i
 induction i using Nat.strongRecOn with
 |_ i ih=>
  intro hi;cases hl:L.getD i false with
  |true=>rfl
  |false=>
   exfalso;have ho:ops[i]? =some ops[i]:=Array.getElem?_eq_getElem hi;obtain⟨A,s,hA,hs,hgd⟩:=lF hg ho;unfold kR at hgd;simp only[Bool.and_eq_true,List.all_eq_true]at hgd
   have hmem:i∈Region.ready .any ops L:=mem_ready.2 ⟨by
    have hiL:i<L.size:=by omega
    simp[hiL]at hl ⊢
    exact hl,ops[i],ho,fun e he hb=>by
     have h5:=hgd.1.1.1;rw[Array.all_eq_true_iff_forall_mem]at h5;have:=h5 e he;rw[hb]at this;have hlt:e.on<i:=by simpa using this
     exact ih e.on hlt (by omega)⟩
   rw[hr]at hmem;cases hmem
theorem Gl{Q:Exit→Act→World→Prop}(hg:fl.good ops n=true)(hst:GJ ops fl K C R Up)(hob:∀i,i<ops.size→MB P ops fl n w0 F0 K C B R Up i)
  (hfin:∀L a w,(∀i,i<ops.size→L.getD i false=true)→PJ ops fl n w0 F0 K C B R fr L a w→Q .normal a w):
  ∀(fuel:Nat) (L:Array Bool) (a:Act) (w:World),L.size=ops.size→Closed .any ops L→(List.range ops.size).countP (fun i=> !L.getD i false)≤fuel→PJ ops fl n w0 F0 K C B R fr L a w→wpAny P .any ops Q fuel L a w:=by
 intro fuel
 induction fuel with
 |zero=>
  intro L a w hL hc hcnt hJ
  have hall:∀i,i<ops.size→L.getD i false=true:=fun i hi=>by
   have h0:(List.range ops.size).countP (fun i=> !L.getD i false)=0:=by omega
   rw[List.countP_eq_zero]at h0;have:=h0 i (by simpa using hi);simpa using this
  refine⟨?_,hfin L a w hall hJ⟩;rw[List.eq_nil_iff_forall_not_mem];intro i hi;obtain⟨h1,o,ho,_⟩:=mem_ready.1 hi;have h2:=hall i (Array.getElem?_eq_some_iff.1 ho).1;rw[Al h1]at h2;cases h2
 |succ fuel ih=>
  intro L a w hL hc hcnt hJ;refine⟨fun hr=>hfin L a w (D5 hg hL hr) hJ,fun i hi=> ?_⟩;obtain⟨h1,o,ho,_⟩:=mem_ready.1 hi;have hio:=(Array.getElem?_eq_some_iff.1 ho).1;refine wpOp_mono (fun a' w' hJ'=> ?_) (JB hg hst hL hc hJ hi (hob i hio) Q);refine ih _ a' w' (by simp[hL]) (hc.set hi) ?_ hJ';have hun:=Al h1
  have hlt:(List.range ops.size).countP (fun j=> !(L.setIfInBounds i true).getD j false)<(List.range ops.size).countP (fun j=> !L.getD j false):=by
   have key:∀l:List Nat,(l.countP (fun j=> !(L.setIfInBounds i true).getD j false)≤l.countP (fun j=> !L.getD j false))∧(i∈l→l.countP (fun j=> !(L.setIfInBounds i true).getD j false)<l.countP (fun j=> !L.getD j false)):=by
    intro l
    induction l with
    |nil=>simp
    |cons x l ihl=>
     by_cases e:x=i
     ·subst e;have hs:(L.setIfInBounds x true).getD x false=true:=by simp[show x<L.size by omega]
      rw[List.countP_cons,List.countP_cons,hs,hun];simp;have:=ihl.1;simp at this;omega
     ·have hs:(L.setIfInBounds i true).getD x false=L.getD x false:=getD_set_ne false (fun e'=>e e'.symm);rw[List.countP_cons,List.countP_cons,hs];refine⟨by have:=ihl.1;omega,fun hm=> ?_⟩
      have hm':i∈l:=by
       rcases List.mem_cons.1 hm with h|h
       ·exact absurd h.symm e
       ·exact h
      have:=ihl.2 hm';omega
   exact(key _).2 (by simpa using hio)
  omega
theorem Ju{id:Nat}{Q:Exit→Act→World→Prop}{a:Act}{w:World}{l:List Oper}(hm:P.follows .mixedOrders=true)(fl:gL){r0:ρ}(hB:B r0 a)(hC:∀j,j<l.length→C j r0 a)(hsz:a.tmps.size=n)(hdf:a.defers=[])(hI:Inv (w0 r0) (F0 r0) w (kC fl R r0 fl.Cj++fr))
  (hg:fl.good l.toArray n=true) (hst:GJ l.toArray fl K C R Up) (hob:∀i,i<l.length→MB P l.toArray fl n w0 F0 K C B R Up i)
  (hfin:∀(r:ρ) a w,B r a→a.tmps.size=n→a.defers=[]→(∀i,i<l.length→K i r a)→Inv (w0 r) (F0 r) w (kC fl R r fl.isFin++fr)→Q .normal a w):
  (Code.region id l.toArray true).wp P Q a w:=by
 refine wp_region_any hm ?_;refine Gl (fl:=fl) (n:=n) (w0:=w0) (F0:=F0) (fr:=fr) hg hst (fun i hi=>hob i (by simpa using hi)) (fun L a w hall hJ=> ?_) _ _ a _ (by simp) ?_ ?_ ?_
 ·obtain⟨r,h1,_,h2,h3,h4,hI⟩:=hJ;refine hfin r a w h2 h3 h4 (fun i hi=>h1 i (by simpa using hi) (hall i (by simpa using hi))) (hI.perm ?_);refine List.Perm.of_eq ?_;unfold kC
  congr 2
  refine List.filter_congr fun ℓ hℓ=> ?_
  have hℓ':ℓ<fl.labs.length:=by simpa using hℓ
  have hb:fl.labs[ℓ]? =some fl.labs[ℓ]:=List.getElem?_eq_getElem hℓ';have hbg:=mK hg hb;unfold gL.av gL.isFin;rw[hb];unfold ko at hbg;simp only[];cases hq:fl.labs[ℓ].cons with
  |none=>
   cases hp:fl.labs[ℓ].prod with
   |none=>simp
   |some p=>
    simp only[hp,hq,Bool.and_eq_true]at hbg;simp[hall p (by have:=hbg.1;simpa using this), -Array.getD_eq_getD_getElem?]
  |some c=>
   simp only[hq,Bool.and_eq_true]at hbg;simp[hall c (by have:=hbg.2.1.1;simpa using this), -Array.getD_eq_getD_getElem?]
 ·intro x o ho hx;simp at hx;exfalso;rcases Nat.lt_or_ge x l.length with h|h
  ·simp[h]at hx
  ·simp[Nat.not_lt.2 h]at hx
 ·refine Nat.le_trans List.countP_le_length ?_;simp
 ·refine⟨r0,fun i hi hl=> ?_,fun i hi _=>hC i (by simpa using hi),hB,hsz,hdf,?_⟩
  ·exfalso;rcases Nat.lt_or_ge i l.length with h|h
   ·simp[h]at hl
   ·simp[Nat.not_lt.2 h]at hl
  ·refine Inv.perm (hI.ext ((Below.refl _ _).drew)) ?_;unfold kC;refine List.Perm.of_eq ?_
   congr 2
   refine List.filter_congr fun ℓ hℓ=> ?_
   have hℓ':ℓ<fl.labs.length:=by simpa using hℓ
   have hb:fl.labs[ℓ]? =some fl.labs[ℓ]:=List.getElem?_eq_getElem hℓ'
   have hgd:∀j,(Array.replicate l.toArray.size false).getD j false=false:=fun j=>by
    rw[Array.getD_eq_getD_getElem?];cases h:(Array.replicate l.toArray.size false)[j]? with
    |none=>rfl
    |some b=>
     rw[Array.getElem?_replicate]at h;split at h
     ·injection h with h;subst h;rfl
     ·cases h
   unfold gL.av gL.Cj;rw[hb];cases hp:fl.labs[ℓ].prod with
   |none=>cases hq:fl.labs[ℓ].cons<;>simp only[hp,hq,Option.all_none,Option.all_some,hgd]<;>rfl
   |some p=>simp only[hp,Option.all_some,hgd];rfl
end
end Go.Tr
namespace Go.Tr
open Go Go.RowKit
universe u
inductive Tree(α:Type) where
 |node (x:α) (l:List (Tree α))
def Tree.val{α:Type}:Tree α→α
 | .node x _=>x
def Tree.kids{α:Type}:Tree α→List (Tree α)
 | .node _ l=>l
mutual
def FX{α:Type}(f:α→List D):Tree α→List D
 | .node x l=>f x++[.sl l.length (BL f l)]
def BL{α:Type}(f:α→List D):List (Tree α)→List D
 |[]=>[]
 |t::l=>FX f t++BL f l
end
theorem BM{α:Type}{f:α→List D}:∀{l:List (Tree α)},BL f l=l.flatMap (FX f)
 |[]=>by unfold BL;rfl
 |t::l=>by unfold BL;rw[BM (l:=l),List.flatMap_cons]
inductive U where
 |int (k:IntKind)
 |bool
 |str
 |pair (a b:U)
 |any
 |sl (e:U)
 |tree (e:U)
 deriving DecidableEq
@[reducible] def El : U → Type
 | .int _=>Int
 | .bool=>Bool
 | .str=>ByteArray
 | .any=>Value
 | .pair a b=>El a×El b
 | .sl e=>List (El e)
 | .tree e=>Tree (El e)
def U.size:U→Nat
 | .pair a b=>a.size+b.size
 | .tree a=>a.size+1
 |_=>1
def enc:(u:U)→El u→List D
 | .int k,x=>[.v (.int k x)]
 | .bool,x=>[.v (.bool x)]
 | .str,x=>[.v (.string x)]
 | .any,x=>[.v x]
 | .pair a b,x=>enc a x.1++enc b x.2
 | .sl e,xs=>[.sl (List.length (α:=El e) xs) (List.flatMap (enc e) xs)]
 | .tree e,x=>FX (enc e) x
def dflt:(u:U)→El u
 | .int _=>(0:Int)
 | .bool=>false
 | .str=>⟨#[]⟩
 | .any=>undef
 | .pair a b=>(dflt a,dflt b)
 | .sl _=>[]
 | .tree e=>.node (dflt e) []
def elt{α:Type}(d:α)(xs:List α)(i:Int):α:=xs.getD i.toNat d
structure UE where
 u:U
 x:El u
def rF:Nat→Nat→(u:U)→El u→Option UE
 |0,1,u,x=>some ⟨u,x⟩
 |0,_+2,.pair a _,x=>some ⟨a,x.1⟩
 |i+1,m+2,.pair _ b,x=>rF i (m+1) b x.2
 |i,m+2,.tree e,x=>bif Nat.beq i (m+1)then some ⟨.sl (.tree e),Tree.kids x⟩else rF i (m+1) e (Tree.val x)
 |_,_,_,_=>none
def jQ:Nat→Nat→U→Nat
 |i+1,m+2,.pair a b=>a.size+jQ i (m+1) b
 |i,m+2,.tree e=>bif Nat.beq i (m+1)then e.size else jQ i (m+1) e
 |_,_,_=>0
def Dw:Nat→Nat→U→Nat
 |0,1,u=>u.size
 |0,_+2,.pair a _=>a.size
 |i+1,m+2,.pair _ b=>Dw i (m+1) b
 |i,m+2,.tree e=>bif Nat.beq i (m+1)then 1 else Dw i (m+1) e
 |_,_,_=>0
def placesOf(P:Program)(t:Nat):Option (List (Nat×Nat)):=match P.underlying t with
 |some (.struct fields)=>fields.toList.mapM fun f=>(P.info? f.type).map fun i=>(f.offset,i.size)
 |_=>none
inductive SV where
 |int (k:IntKind) (i:Int)
 |bool (b:Bool)
 |raw (v:Value)
 |rsl (e:U) (xs:List (El e))
 |rp (u:U) (x:El u)
 |ptr (g o:Nat)
 |sl (g:Nat)
 |ep (g s:Nat) (i:Int) (o:Nat)
 |agg (l:List SV)
 |tup (l:List SV)
 |fn (f:Nat) (l:List SV)
 |un
 |gd (d:Nat) (b:Bool) (v:SV)
 |nh (k:Int) (o n:Nat) (hdr:Value)
 |np (k:Int) (o n:Nat) (hdr:Value) (s:Nat) (i:Int) (j:Nat)
 |mp (g:Nat)
 |nn (e:U) (xs:List (El e))
 |sx (g s lo n:Nat)
inductive Tok where
 |bY (g:Nat) (t:TypeId) (cs:List SV)
 |row (g:Nat) (t:TypeId) (s:Nat) (u:U) (xs:List (El u)) (us:List Value)
 |map (g:Nat) (u:U) (kv:List (Int×El u))
 |nest (g:Nat) (u:U) (xs:List (El u)) (us:List Value)
 |dat (g:Nat) (t:TypeId) (s:Nat) (u:U) (xs:List (El u))
abbrev Ev:=List (Nat×SV)
def lk{α:Type u}:List (Nat×α)→Nat→Option α
 |[],_=>none
 |(k,v)::l,t=>bif Nat.beq t k then some v else lk l t
def nth{α:Type u}:List α→Nat→Option α
 |[],_=>none
 |x::_,0=>some x
 |_::l,n+1=>nth l n
def jI{α:Type u}:Nat→List α→List α
 |0,l=>l
 |_,[]=>[]
 |n+1,_::l=>jI n l
def takeN{α:Type u}:Nat→List α→Option (List α)
 |0,_=>some []
 |_,[]=>none
 |n+1,x::l=>match takeN n l with|some r=>some (x::r)|none=>none
def dS:(u:U)→El u→List SV
 | .int k,x=>[.int k x]
 | .bool,x=>[.bool x]
 | .str,x=>[.raw (.string x)]
 | .any,x=>[.raw x]
 | .pair a b,x=>dS a x.1++dS b x.2
 | .sl e,xs=>[.rsl e xs]
 | .tree e,x=>dS e (Tree.val x)++[.rsl (.tree e) (Tree.kids x)]
inductive ou where
 |sc (z:SV)
 |bool
 |ptr (e:Nat)
 |st (m size:Nat) (u:U) (zs:List SV)
 |sl (e s:Nat) (u:U)
 |mp (u:U)
abbrev TI:=List (Nat×ou)
def qx:SV→Value
 | .int k i=>.int k i
 | .bool b=>.bool b
 | .raw v=>v
 |_=>.tuple #[]
def tY:SV→Bool
 | .int _ _=>true
 | .bool _=>true
 | .raw v=>v.oneCell'
 |_=>false
def lJ:ou→List SV
 | .sc z=>[z]
 | .bool=>[.bool false]
 | .ptr _=>[.raw (.pointer none)]
 | .st _ _ _ zs=>zs
 | .sl _ _ _=>[.raw (.slice none 0 0)]
 | .mp _=>[.raw (.map none)]
def FK:Value→Value→Bool
 | .int k i,.int k' j=>k==k'&&i==j
 | .bool a,.bool b=>a==b
 | .string a,.string b=>a.data==b.data
 | .pointer none,.pointer none=>true
 | .slice none 0 0,.slice none 0 0=>true
 | .map none,.map none=>true
 | .nilFunc,.nilFunc=>true
 | .nilIface,.nilIface=>true
 |_,_=>false
def lI:List Value→List Value→Bool
 |[],[]=>true
 |a::l,b::m=>FK a b&&lI l m
 |_,_=>false
def dV:U→List Value
 | .int k=>[.int k 0]
 | .bool=>[.bool false]
 | .str=>[.string ⟨#[]⟩]
 | .any=>[]
 | .pair a b=>dV a++dV b
 | .sl _=>[.slice none 0 0]
 | .tree e=>dV e++[.slice none 0 0]
def sH:(u:U)→El u→Value
 | .int k,x=>.int k x
 | .bool,x=>.bool x
 | .pair (.int k) (.int l),x=>.agg #[.int k x.1,.int l x.2]
 |_,_=>undef
def u1:U→Bool
 | .int _=>true
 | .bool=>true
 | .pair (.int _) (.int _)=>true
 |_=>false
def Er:Value→Value→Bool
 | .agg a,.agg b=>lI a.toList b.toList
 |a,b=>FK a b
def nV(P:Program)(t:Nat)(x:ou):Bool:=
 ((lJ x).all tY&&(match zeroOf P t with|some zs=>lI zs ((lJ x).map qx)|none=>false)&&(P.info? t).map (·.size)==some (lJ x).length)&&(match x with
 | .sc z=>qo P t==some false&&(match z with| .int k _=>(match P.underlying t with|some (.int k')=>k==k'|_=>false)|_=>true)
 | .bool=>qo P t==some false&&(match P.underlying t with|some .bool=>true|_=>false)
 | .ptr _=>qo P t==some false
 | .sl e s u=>qo P t==some false&&jA P t==some (e,s)&&Nat.beq u.size s&&Nat.blt 0 s&&(P.info? e).map (fun i=>(i.zero.map (·.cells.size),i.size,decide (i.bytes≤1000)))==some (some s,s,true)
 | .mp u=>qo P t==some false&&u1 u&&(match P.underlying t with|some (.map k e)=>(match P.underlying k with|some (.int .i64)=>true|_=>false)&&(match(P.info? e).bind (·.zero)with|some z=>Er z (sH u (dflt u))|none=>false)|_=>false)
 | .st m size u _=>qo P t==some true&&(P.info? t).map (·.size)==some size&&Nat.beq u.size size&&((List.range m).all fun i=>Ae P t i==some (jQ i m u))&&placesOf P t==some ((List.range m).map fun i=>(jQ i m u,Dw i m u)))
def gM(P:Program)(ti:TI):Bool:=ti.all fun x=>nV P x.1 x.2
def qz:U→U→Bool
 | .int k,.int k'=>k==k'
 | .bool,.bool=>true
 | .str,.str=>true
 | .any,.any=>true
 | .pair a b,.pair c d=>qz a c&&qz b d
 | .sl a,.sl b=>qz a b
 | .tree a,.tree b=>qz a b
 |_,_=>false
theorem cB:∀{u v:U},qz u v=true→u=v
 | .int _,.int _,h=>by simp only[qz,beq_iff_eq]at h;rw[h]
 | .bool,.bool,_| .str,.str,_| .any,.any,_=>rfl
 | .pair a b,.pair c d,h=>by
  simp only[qz,Bool.and_eq_true]at h;rw[cB h.1,cB h.2]
 | .sl a,.sl b,h=>by simp only[qz]at h;rw[cB h]
 | .tree a,.tree b,h=>by simp only[qz]at h;rw[cB h]
 | .tree _,.int _,h| .tree _,.bool,h| .tree _,.str,h| .tree _,.any,h| .tree _,.pair _ _,h| .tree _,.sl _,h=>by cases h
 | .int _,.tree _,h| .bool,.tree _,h| .str,.tree _,h| .any,.tree _,h| .pair _ _,.tree _,h| .sl _,.tree _,h=>by cases h
 | .int _,.bool,h| .int _,.str,h| .int _,.any,h| .int _,.pair _ _,h| .int _,.sl _,h=>by cases h
 | .bool,.int _,h| .bool,.str,h| .bool,.any,h| .bool,.pair _ _,h| .bool,.sl _,h=>by cases h
 | .str,.int _,h| .str,.bool,h| .str,.any,h| .str,.pair _ _,h| .str,.sl _,h=>by cases h
 | .any,.int _,h| .any,.bool,h| .any,.str,h| .any,.pair _ _,h| .any,.sl _,h=>by cases h
 | .pair _ _,.int _,h| .pair _ _,.bool,h| .pair _ _,.str,h| .pair _ _,.any,h| .pair _ _,.sl _,h=>by cases h
 | .sl _,.int _,h| .sl _,.bool,h| .sl _,.str,h| .sl _,.any,h| .sl _,.pair _ _,h=>by cases h
inductive R where
 |no
 |ok (v:SV)
 |vc (p:Prop) (v:SV)
 |ex (f:Nat→R)
def evs(env:Ev)(g:Option (Nat×Bool)):Operand→Option SV
 | .tmp t=>match lk env t with
  |some (.gd d b v)=>match g with
   |some (d',b')=>bif Nat.beq d d'&&(b==b')then some v else none
   |none=>none
  |r=>r
 | .const v=>match v with
  | .int k i=>some (.int k i)
  | .bool b=>some (.bool b)
  | .string s=>some (.raw (.string s))
  | .pointer none=>some (.raw (.pointer none))
  | .slice none 0 0=>some (.raw (.slice none 0 0))
  |_=>none
 | .func f=>some (.fn f [])
 |_=>none
def zZ(env:Ev)(g:Option (Nat×Bool)):List Operand→Option (List SV)
 |[]=>some []
 |x::l=>match evs env g x,zZ env g l with
  |some v,some r=>some (v::r)
  |_,_=>none
def Ki(env:Ev)(g g':Option (Nat×Bool))(x:Operand):Option SV:=match evs env g' x with
 |some v=>some v
 |none=>evs env g x
def LK(o:BinOp)(k k':IntKind)(i j:Int):R:=match o with
 | .shr=>.vc (0≤j) (.int k (i.fdiv (2 ^ (min j.toNat k.bits))))
 | .shl=>.vc (0≤j) (.int k (k.wrap (i*2 ^ (min j.toNat k.bits))))
 |o=>bif k==k' then(match o with
  | .add=>.ok (.int k (k.wrap (i+j)))
  | .sub=>.ok (.int k (k.wrap (i-j)))
  | .mul=>.ok (.int k (k.wrap (i*j)))
  | .quo=>.vc (j≠0) (.int k (k.wrap (i.tdiv j)))
  | .rem=>.vc (j≠0) (.int k (i.tmod j))
  | .and=>.ok (.int k (bits .and k i j))
  | .or=>.ok (.int k (bits .or k i j))
  | .xor=>.ok (.int k (bits .xor k i j))
  | .lss=>.ok (.bool (decide (i<j)))
  | .leq=>.ok (.bool (decide (i≤j)))
  | .gtr=>.ok (.bool (decide (j<i)))
  | .geq=>.ok (.bool (decide (j≤i)))
  | .eql=>.ok (.bool (i==j))
  | .neq=>.ok (.bool (i !=j))
  |_=>.no)else .no
def LJ:BinOp→SV→SV→R
 | .add,.int .i64 i,.int .i64 j=>.ok (.int .i64 (IntKind.i64.wrap (i+j)))
 | .sub,.int .i64 i,.int .i64 j=>.ok (.int .i64 (IntKind.i64.wrap (i-j)))
 | .mul,.int .i64 i,.int .i64 j=>.ok (.int .i64 (IntKind.i64.wrap (i*j)))
 | .quo,.int .i64 i,.int .i64 j=>.vc (j≠0) (.int .i64 (IntKind.i64.wrap (i.tdiv j)))
 | .rem,.int .i64 i,.int .i64 j=>.vc (j≠0) (.int .i64 (i.tmod j))
 | .lss,.int .i64 i,.int .i64 j=>.ok (.bool (decide (i<j)))
 | .leq,.int .i64 i,.int .i64 j=>.ok (.bool (decide (i≤j)))
 | .gtr,.int .i64 i,.int .i64 j=>.ok (.bool (decide (j<i)))
 | .geq,.int .i64 i,.int .i64 j=>.ok (.bool (decide (j≤i)))
 | .eql,.int .i64 i,.int .i64 j=>.ok (.bool (i==j))
 | .neq,.int .i64 i,.int .i64 j=>.ok (.bool (i !=j))
 |o,.int k i,.int k' j=>LK o k k' i j
 |_,_,_=>.no
def jl:List Tok→Nat→Option (List SV)
 |[],_=>none
 | .bY g _ cs::l,k=>bif Nat.beq g k then some cs else jl l k
 | .row _ _ _ _ _ _::l,k=>jl l k
 | .map _ _ _::l,k=>jl l k
 | .nest _ _ _ _::l,k=>jl l k
 | .dat _ _ _ _ _::l,k=>jl l k
structure Dn where
 t:TypeId
 s:Nat
 u:U
 xs:List (El u)
 us:List Value
def rowOf:List Tok→Nat→Option Dn
 |[],_=>none
 | .row g t s u xs us::l,k=>bif Nat.beq g k then some ⟨t,s,u,xs,us⟩else rowOf l k
 | .bY _ _ _::l,k=>rowOf l k
 | .map _ _ _::l,k=>rowOf l k
 | .nest _ _ _ _::l,k=>rowOf l k
 | .dat _ _ _ _ _::l,k=>rowOf l k
structure Jz where
 t:TypeId
 s:Nat
 u:U
 xs:List (El u)
def iV:List Tok→Nat→Option Jz
 |[],_=>none
 | .dat g t s u xs::l,k=>bif Nat.beq g k then some ⟨t,s,u,xs⟩else iV l k
 | .row _ _ _ _ _ _::l,k=>iV l k
 | .bY _ _ _::l,k=>iV l k
 | .map _ _ _::l,k=>iV l k
 | .nest _ _ _ _::l,k=>iV l k
structure Ls where
 u:U
 kv:List (Int×El u)
def mapOf:List Tok→Nat→Option Ls
 |[],_=>none
 | .map g u kv::l,k=>bif Nat.beq g k then some ⟨u,kv⟩else mapOf l k
 | .bY _ _ _::l,k=>mapOf l k
 | .row _ _ _ _ _ _::l,k=>mapOf l k
 | .nest _ _ _ _::l,k=>mapOf l k
 | .dat _ _ _ _ _::l,k=>mapOf l k
def dI{α:Type u}(d:α):List (Int×α)→Int→α
 |[],_=>d
 |(k,v)::l,i=>bif k==i then v else dI d l i
def gF{α:Type u}:List (Int×α)→Int→Bool
 |[],_=>false
 |(k,_)::l,i=>bif k==i then true else gF l i
def gW{α:Type u}:List (Int×α)→Int→α→List (Int×α)
 |[],i,x=>[(i,x)]
 |(k,v)::l,i,x=>bif k==i then(k,x)::l else(k,v)::gW l i x
def Jw(us:List Value)(k:Int)(s o:Nat):List SV→List SV
 |[]=>[]
 |v::l=>match v with
  | .rsl e ys=>.nh k o (List.length (α:=El e) ys) (us.getD (k.toNat*s+o) undef)::Jw us k s (o+1) l
  |v=>v::Jw us k s (o+1) l
def Az(u:U)(x:El u)(o:Nat):Option UE:=match nth (dS u x) o with
 |some (.rsl e ys)=>some ⟨.sl e,ys⟩
 |_=>none
def jk:List SV→Bool
 |[]=>true
 |v::l=>match v with
  | .int _ _=>jk l
  | .bool _=>jk l
  | .raw _=>jk l
  |_=>false
def nT:List SV→Bool
 |[]=>true
 |v::l=>match v with
  | .int _ _=>nT l
  | .bool _=>nT l
  | .raw _=>nT l
  | .rsl _ _=>nT l
  |_=>false
def Cu{α:Type}(xs:List α)(us:List Value)(k:Int)(s o:Nat)(hdr:Value):Prop:=0≤k∧k<(xs.length:Nat)∧us[k.toNat*s+o]? =some hdr
def Ik(ti:TI)(rs:List Tok)(t:Nat):SV→R
 | .rp u x=>match lk ti t with
  |some (.st _ n _ _)=>bif Nat.beq u.size n then .ok (.agg (dS u x))else .no
  |some _=>match dS u x with|[v]=>.ok v|_=>.no
  |none=>.no
 | .ptr g o=>match jl rs g with
  |some cs=>match lk ti t with
   |some (.st _ n _ _)=>match takeN n (jI o cs)with|some l=>.ok (.agg l)|none=>.no
   |some _=>match nth cs o with|some v=>.ok v|none=>.no
   |none=>.no
  |none=>.no
 | .ep g s i o=>match rowOf rs g with
  |some ⟨_,s',u,xs,us⟩=>bif Nat.beq s s' then(match lk ti t with
   |some (.st _ n _ _)=>match takeN n (jI o (dS u (elt (dflt u) xs i)))with|some l=>bif jk l then .ok (.agg l)else bif nT l then .vc (i.toNat*s+s≤us.length) (.agg (Jw us i s o l))else .no|none=>.no
   |some _=>match nth (dS u (elt (dflt u) xs i)) o with|some v=>bif jk [v]then .ok v else bif nT [v]then(match Jw us i s o [v]with|[v']=>.vc (i.toNat*s+s≤us.length) v'|_=>.no)else .no|none=>.no
   |none=>.no)else .no
  |none=>match iV rs g with
   |some ⟨_,s',u,xs⟩=>bif Nat.beq s s' then(match lk ti t with
    |some (.st _ n _ _)=>match takeN n (jI o (dS u (elt (dflt u) xs i)))with|some l=>.ok (.agg l)|none=>.no
    |some _=>match nth (dS u (elt (dflt u) xs i)) o with|some v=>.ok v|none=>.no
    |none=>.no)else .no
   |none=>.no
 | .np k o n hdr s2 i j=>.ex fun g=>match rowOf rs g with
  |some ⟨_,s,u,xs,us⟩=>match Az u (elt (dflt u) xs k) o with
   |some ⟨.sl e,ys⟩=>bif Nat.beq s2 e.size then(match lk ti t with
    |some (.st _ q _ _)=>match takeN q (jI j (dS e (elt (dflt e) ys i)))with|some l=>bif jk l then .vc (Cu xs us k s o hdr∧0≤i∧i<(n:Nat)) (.agg l)else .no|none=>.no
    |some _=>match nth (dS e (elt (dflt e) ys i)) j with|some v=>bif jk [v]then .vc (Cu xs us k s o hdr∧0≤i∧i<(n:Nat)) v else .no|none=>.no
    |none=>.no)else .no
   |_=>.no
  |none=>.no
 |_=>.no
def DZ(c:Bool):SV→SV→Option SV
 | .bool a,.bool b=>some (.bool (bif c then a else b))
 | .int .i64 i,.int .i64 j=>some (.int .i64 (bif c then i else j))
 |_,_=>none
def cellsOf:SV→List SV
 | .agg l=>l
 |v=>[v]
def xC:Nat→List SV→List SV→Option (List SV)
 |0,[],cs=>some cs
 |0,v::l,_::cs=>match xC 0 l cs with|some r=>some (v::r)|none=>none
 |o+1,l,c::cs=>match xC o l cs with|some r=>some (c::r)|none=>none
 |_,_,[]=>none
def GX(env:Ev)(g:Option (Nat×Bool))(m:Nat)(u:U):List (Nat×Operand)→List SV→Option (List SV)
 |[],cs=>some cs
 |(i,x)::l,cs=>match evs env g x with
  |some v=>bif Nat.blt i m&&Nat.beq (cellsOf v).length (Dw i m u)then(match xC (jQ i m u) (cellsOf v) cs with|some cs'=>GX env g m u l cs'|none=>none)else none
  |none=>none
def sM(ti:TI)(env:Ev)(rs:List Tok)(g:Option (Nat×Bool)):Op→R
 | .move x=>match evs env g x with|some v=>.ok v|none=>.no
 | .assign x=>match evs env g x with|some v=>.ok v|none=>.no
 | .nilCheck x=>match evs env g x with
  |some (.rp u x)=>.ok (.rp u x)|some (.ptr h o)=>.ok (.ptr h o)|some (.ep h s i o)=>.ok (.ep h s i o)|some (.np k o n hdr s i j)=>.ok (.np k o n hdr s i j)|_=>.no
 | .fieldAddr s x i=>match lk ti s,evs env g x with
  |some (.st m _ u' _),some (.rp u x)=>bif Nat.beq (jQ i m u) (jQ i m u')then(match rF i m u x with|some ⟨u2,x2⟩=>.ok (.rp u2 x2)|none=>.no)else .no
  |some (.st m _ u _),some (.ptr h o)=>bif Nat.blt i m then .ok (.ptr h (o+jQ i m u))else .no
  |some (.st m _ u _),some (.ep h s j o)=>bif Nat.blt i m then .ok (.ep h s j (o+jQ i m u))else .no
  |some (.st m _ u _),some (.np k o n hdr s q j)=>bif Nat.blt i m then .ok (.np k o n hdr s q (j+jQ i m u))else .no
  |_,_=>.no
 | .load t x=>match evs env g x with|some v=>Ik ti rs t v|none=>.no
 | .binOp o t x y _=>match evs env g x,evs env g y with
  |some (.bool a),some (.bool b)=>match lk ti t,o with
   |some .bool,.eql=>.ok (.bool (a==b))
   |some .bool,.neq=>.ok (.bool (a !=b))
   |_,_=>.no
  |some (.raw (.slice none _ _)),some (.raw (.slice none 0 0))=>match lk ti t,o with
   |some (.sl _ _ _),.eql=>.ok (.bool true)
   |_,_=>.no
  |some (.nn _ _),some (.raw (.slice none 0 0))=>match lk ti t,o with
   |some (.sl _ _ _),.eql=>.ok (.bool false)
   |_,_=>.no
  |some v,some u=>LJ o v u
  |_,_=>.no
 | .unOp .not _ x=>match evs env g x with|some (.bool b)=>.ok (.bool (!b))|_=>.no
 | .unOp .neg _ x=>match evs env g x with|some (.int .i64 i)=>.ok (.int .i64 (IntKind.i64.wrap (0-i)))|_=>.no
 | .indexAddr t x y=>match lk ti t,evs env g x,evs env g y with
  |some (.sl _ _ u),some (.rsl e xs),some (.int .i64 i)=>bif Nat.beq u.size e.size then .vc (0≤i∧i<(List.length (α:=El e) xs:Nat)) (.rp e (elt (dflt e) xs i))else .no
  |some (.sl _ s _),some (.nh k o n hdr),some (.int .i64 i)=>.vc (0≤i∧i<(n:Nat)) (.np k o n hdr s i 0)
  |some (.sl _ s _),some (.sl h),some (.int .i64 i)=>match rowOf rs h with
   |some ⟨_,s',u,xs,_⟩=>bif Nat.beq s s' then .vc (0≤i∧i<(List.length (α:=El u) xs:Nat)) (.ep h s i 0)else .no
   |none=>match iV rs h with
    |some ⟨_,s',u,xs⟩=>bif Nat.beq s s' then .vc (0≤i∧i<(List.length (α:=El u) xs:Nat)) (.ep h s i 0)else .no
    |none=>.no
  |some (.sl _ s _),some (.sx h s' lo n),some (.int .i64 i)=>bif Nat.beq s s' then .vc (0≤i∧i<(n:Nat)) (.ep h s ((lo:Nat)+i) 0)else .no
  |_,_,_=>.no
 | .slice t x (some y) none none=>match lk ti t,evs env g x,evs env g y with
  |some (.sl _ s _),some (.sl h),some (.int .i64 i)=>match rowOf rs h with
   |some ⟨_,s',u,xs,_⟩=>bif Nat.beq s s' then .vc (0≤i∧i<(List.length (α:=El u) xs:Nat)) (.sx h s i.toNat (List.length (α:=El u) xs-i.toNat))else .no
   |none=>.no
  |_,_,_=>.no
 | .build t ps=>match lk ti t with
  |some (.st m _ u zs)=>match GX env g m u ps.toList zs with|some l=>.ok (.agg l)|none=>.no
  |_=>.no
 | .makeFunc (.func f) ts xs=>match ts.toList,zZ env g xs.toList with
  |[],some l=>.ok (.fn f l)
  |_,_=>.no
 | .lookup t x y false=>match lk ti t,evs env g x,evs env g y with
  |some (.mp u),some (.mp h),some (.int .i64 i)=>match mapOf rs h with
   |some ⟨u',kv⟩=>bif qz u u' then(match dS u' (dI (dflt u') kv i)with|[v]=>.ok v|[v,v2]=>.ok (.agg [v,v2])|_=>.no)else .no
   |none=>.no
  |_,_,_=>.no
 | .lookup t x y true=>match lk ti t,evs env g x,evs env g y with
  |some (.mp u),some (.mp h),some (.int .i64 i)=>match mapOf rs h with
   |some ⟨u',kv⟩=>bif qz u u' then(match dS u' (dI (dflt u') kv i)with|[v]=>.ok (.tup [v,.bool (gF kv i)])|[v,v2]=>.ok (.tup [.agg [v,v2],.bool (gF kv i)])|_=>.no)else .no
   |none=>.no
  |_,_,_=>.no
 | .convert s d x=>match lk ti s,lk ti d,evs env g x with
  |some (.sc _),some (.sc (.int k _)),some (.int _ i)=>.ok (.int k (k.wrap i))
  |_,_,_=>.no
 | .extract x i=>match evs env g x with
  |some (.tup l)=>match nth l i with|some v=>.ok v|none=>.no
  |_=>.no
 | .pick (.tmp c) x y=>match evs env g (.tmp c)with
  |some (.bool b)=>match Ki env g (some (c,true)) x,Ki env g (some (c,false)) y with
   |some v,some u=>match DZ b v u with|some r=>.ok r|none=>.no
   |_,_=>.no
  |_=>.no
 | .call c=>match c.callee,c.args.toList,c.argTypes.toList with
  | .builtin .len,[x],[t]=>match lk ti t,evs env g x with
   |some (.sl _ _ _),some (.rsl e xs)=>.ok (.int .i64 (List.length (α:=El e) xs:Nat))
   |some (.sl _ _ _),some (.sl h)=>match rowOf rs h with
    |some ⟨_,_,u,xs,_⟩=>.ok (.int .i64 (List.length (α:=El u) xs:Nat))
    |none=>match iV rs h with
     |some ⟨_,_,u,xs⟩=>.ok (.int .i64 (List.length (α:=El u) xs:Nat))
     |none=>.no
   |some (.sl _ _ _),some (.raw (.slice none 0 0))=>.ok (.int .i64 0)
   |some (.sl _ _ _),some (.nh _ _ n _)=>.ok (.int .i64 (n:Nat))
   |some (.sl _ _ _),some (.sx _ _ _ n)=>.ok (.int .i64 (n:Nat))
   |some (.mp _),some (.mp h)=>match mapOf rs h with
    |some ⟨_,kv⟩=>.ok (.int .i64 (kv.length:Nat))
    |none=>.no
   |_,_=>.no
  | .builtin .max,[x,y],_=>match evs env g x,evs env g y with
   |some (.int k i),some (.int _ j)=>.ok (.int k (max i j))
   |_,_=>.no
  | .builtin .min,[x,y],_=>match evs env g x,evs env g y with
   |some (.int k i),some (.int _ j)=>.ok (.int k (min i j))
   |_,_=>.no
  |_,_,_=>.no
 |_=>.no
def coe{u v:U}(h:u=v)(xs:List (El u)):List (El v):=h▸xs
def Ns{u v:U}(h:u=v)(kv:List (Int×El u)):List (Int×El v):=h▸kv
@[simp] theorem G5 {u : U} (h : u = u) (kv : List (Int × El u)) : Ns h kv = kv := rfl
@[simp] theorem zS {u : U} (h : u = u) (xs : List (El u)) : coe h xs = xs := rfl
def Tok.name:Tok→Nat
 | .bY g _ _=>g
 | .row g _ _ _ _ _=>g
 | .map g _ _=>g
 | .nest g _ _ _=>g
 | .dat g _ _ _ _=>g
def fT:List Tok→Nat→(Tok→List Tok→Prop)→Prop→Prop
 |[],_,_,N=>N
 | .bY g t cs::l,k,K,N=>bif Nat.beq g k then K (.bY g t cs) l else fT l k (fun x l'=>K x (.bY g t cs::l')) N
 | .row g t s u xs us::l,k,K,N=>bif Nat.beq g k then K (.row g t s u xs us) l else fT l k (fun x l'=>K x (.row g t s u xs us::l')) N
 | .map g u kv::l,k,K,N=>bif Nat.beq g k then K (.map g u kv) l else fT l k (fun x l'=>K x (.map g u kv::l')) N
 | .nest g u xs us::l,k,K,N=>bif Nat.beq g k then K (.nest g u xs us) l else fT l k (fun x l'=>K x (.nest g u xs us::l')) N
 | .dat g t s u xs::l,k,K,N=>bif Nat.beq g k then K (.dat g t s u xs) l else fT l k (fun x l'=>K x (.dat g t s u xs::l')) N
def pX(rs:List Tok)(k:Nat)(K:TypeId→List SV→List Tok→Prop):Prop:=fT rs k (fun x l=>match x with| .bY _ t cs=>K t cs l|_=>False) False
def gT(rs:List Tok)(k:Nat)(K:TypeId→Nat→(u:U)→List (El u)→List Value→List Tok→Prop):Prop:=fT rs k (fun x l=>match x with| .row _ t s u xs us=>K t s u xs us l|_=>False) False
def A8(rs:List Tok)(k:Nat)(K:(u:U)→List (Int×El u)→List Tok→Prop):Prop:=fT rs k (fun x l=>match x with| .map _ u kv=>K u kv l|_=>False) False
def CZ(rs:List Tok)(k:Nat)(K:(u:U)→List (El u)→List Value→List Tok→Prop):Prop:=fT rs k (fun x l=>match x with| .nest _ u xs us=>K u xs us l|_=>False) False
def vK(rs:List Tok)(k:Nat)(K:TypeId→Nat→(u:U)→List (El u)→List Tok→Prop):Prop:=fT rs k (fun x l=>match x with| .dat _ t s u xs=>K t s u xs l|_=>False) False
def mkK:(u:U)→List SV→List Tok→(El u→List SV→List Tok→Prop)→Prop
 | .int k,c::l,rs,K=>match c with| .int k' i=>bif k'==k then K i l rs else False|_=>False
 | .bool,c::l,rs,K=>match c with| .bool b=>K b l rs|_=>False
 | .str,c::l,rs,K=>match c with| .raw (.string x)=>K x l rs|_=>False
 | .any,c::l,rs,K=>match c with| .raw x=>K x l rs| .int k i=>K (.int k i) l rs| .nh _ _ _ hdr=>K hdr l rs|_=>False
 | .pair a b,l,rs,K=>mkK a l rs fun x l' rs'=>mkK b l' rs' fun y l'' rs''=>K (x,y) l'' rs''
 | .sl e,c::l,rs,K=>match c with
  | .sl h=>gT rs h fun _ s u xs _ rs'=>if hu:qz u e=true then(bif Nat.beq s e.size then K (coe (cB hu) xs) l rs' else False)else False
  | .raw (.slice none 0 0)=>K [] l rs
  |_=>False
 | .tree e,l,rs,K=>mkK e l rs fun x l' rs'=>match l' with
  |c::l''=>(match c with
   | .sl h=>gT rs' h fun _ s u xs _ rs''=>if hu:qz u (.tree e)=true then(bif Nat.beq s (e.size+1)then K (.node x (coe (cB hu) xs)) l'' rs'' else False)else False
   | .raw (.slice none 0 0)=>K (.node x []) l'' rs'
   |_=>False)
  |[]=>False
 |_,[],_,_=>False
def Gf(u:U):List (List SV)→List Tok→(List (El u)→List Tok→Prop)→Prop
 |[],rs,K=>K [] rs
 |c::cs,rs,K=>mkK u c rs fun x l rs'=>match l with|[]=>Gf u cs rs' fun xs rs''=>K (x::xs) rs''|_=>False
def hol:Nat→U
 |0=>.any
 |1=>.any
 |n+2=>.pair .any (hol (n+1))
def Ib:List SV→Bool
 |[]=>false
 |v::l=>match v with
  | .nh _ _ _ _=>true
  |_=>Ib l
def Ia:List (List SV)→Bool
 |[]=>false
 |c::l=>Ib c||Ia l
def qI(env:Ev)(g:Option (Nat×Bool)):List (Nat×Operand)→Nat→Option (List (List SV))
 |[],_=>some []
 |(i,x)::l,k=>bif Nat.beq i k then(match evs env g x,qI env g l (k+1)with|some v,some r=>some (cellsOf v::r)|_,_=>none)else none
def BA:SV→Bool
 | .int _ _=>true
 | .bool _=>true
 | .raw _=>true
 | .rsl _ _=>true
 | .rp _ _=>true
 | .ptr _ _=>true
 | .sl _=>true
 | .ep _ _ _ _=>true
 | .nh _ _ _ _=>true
 | .np _ _ _ _ _ _ _=>true
 | .mp _=>true
 | .nn _ _=>true
 | .fn _ _=>true
 |_=>false
def zP:List SV→Bool
 |[]=>true
 |v::l=>BA v&&zP l
def setAt:Nat→List SV→List SV→(List SV→Prop)→Prop
 |0,[],cs,K=>K cs
 |0,v::l,_::cs,K=>setAt 0 l cs fun r=>K (v::r)
 |o+1,l,c::cs,K=>setAt o l cs fun r=>K (c::r)
 |_,_,[],_=>False
def xZ(st:Bool)(σ:List (Nat×Nat))(g:Nat)(K:Nat→Prop):Prop:=match lk σ g with
 |some h=>K h
 |none=>match st with|true=>False|false=>K g
def I9(st:Bool)(σ:List (Nat×Nat))(v:SV):(SV→Prop)→Prop:=
 SV.rec (motive_1:=fun _=>(SV→Prop)→Prop) (motive_2:=fun _=>(List SV→Prop)→Prop) (fun k i K=>K (.int k i)) (fun b K=>K (.bool b)) (fun v K=>K (.raw v)) (fun e xs K=>K (.rsl e xs)) (fun u x K=>K (.rp u x)) (fun g o K=>xZ st σ g fun h=>K (.ptr h o)) (fun g K=>xZ st σ g fun h=>K (.sl h)) (fun g s i o K=>xZ st σ g fun h=>K (.ep h s i o)) (fun _ ih K=>ih fun l'=>K (.agg l')) (fun _ ih K=>ih fun l'=>K (.tup l')) (fun f _ ih K=>ih fun l'=>K (.fn f l')) (fun K=>K .un) (fun _ _ _ _ _=>False) (fun k o n hdr K=>K (.nh k o n hdr)) (fun k o n hdr s i j K=>K (.np k o n hdr s i j)) (fun g K=>xZ st σ g fun h=>K (.mp h)) (fun e xs K=>K (.nn e xs)) (fun g s lo n K=>xZ st σ g fun h=>K (.sx h s lo n)) (fun K=>K []) (fun _ _ ih1 ih2 K=>ih1 fun v'=>ih2 fun l'=>K (v'::l')) v
def D9(st:Bool)(σ:List (Nat×Nat))(l:List SV):(List SV→Prop)→Prop:=
 SV.rec_1 (motive_1:=fun _=>(SV→Prop)→Prop) (motive_2:=fun _=>(List SV→Prop)→Prop) (fun k i K=>K (.int k i)) (fun b K=>K (.bool b)) (fun v K=>K (.raw v)) (fun e xs K=>K (.rsl e xs)) (fun u x K=>K (.rp u x)) (fun g o K=>xZ st σ g fun h=>K (.ptr h o)) (fun g K=>xZ st σ g fun h=>K (.sl h)) (fun g s i o K=>xZ st σ g fun h=>K (.ep h s i o)) (fun _ ih K=>ih fun l'=>K (.agg l')) (fun _ ih K=>ih fun l'=>K (.tup l')) (fun f _ ih K=>ih fun l'=>K (.fn f l')) (fun K=>K .un) (fun _ _ _ _ _=>False) (fun k o n hdr K=>K (.nh k o n hdr)) (fun k o n hdr s i j K=>K (.np k o n hdr s i j)) (fun g K=>xZ st σ g fun h=>K (.mp h)) (fun e xs K=>K (.nn e xs)) (fun g s lo n K=>xZ st σ g fun h=>K (.sx h s lo n)) (fun K=>K []) (fun _ _ ih1 ih2 K=>ih1 fun v'=>ih2 fun l'=>K (v'::l')) l
def Ea(st:Bool)(σ:List (Nat×Nat)):Tok→(Tok→Prop)→Prop
 | .bY g t cs,K=>xZ st σ g fun h=>D9 st σ cs fun cs'=>K (.bY h t cs')
 | .row g t s u xs us,K=>xZ st σ g fun h=>K (.row h t s u xs us)
 | .map g u kv,K=>xZ st σ g fun h=>K (.map h u kv)
 | .nest g u xs us,K=>xZ st σ g fun h=>K (.nest h u xs us)
 | .dat g t s u xs,K=>xZ st σ g fun h=>K (.dat h t s u xs)
def kH(st:Bool)(σ:List (Nat×Nat)):List Tok→(List Tok→Prop)→Prop
 |[],K=>K []
 |v::l,K=>Ea st σ v fun v'=>kH st σ l fun l'=>K (v'::l')
def D8(st:Bool)(σ:List (Nat×Nat)):Ev→(Ev→Prop)→Prop
 |[],K=>K []
 |(t,v)::l,K=>I9 st σ v fun v'=>D8 st σ l fun l'=>K ((t,v')::l')
mutual
def SV.names:SV→List Nat→List Nat
 | .ptr g _,r=>g::r
 | .sl g,r=>g::r
 | .ep g _ _ _,r=>g::r
 | .sx g _ _ _,r=>g::r
 | .mp g,r=>g::r
 | .agg l,r=>fZ l r
 | .tup l,r=>fZ l r
 | .fn _ l,r=>fZ l r
 | .gd _ _ v,r=>v.names r
 |_,r=>r
def fZ:List SV→List Nat→List Nat
 |[],r=>r
 |v::l,r=>v.names (fZ l r)
end
def Tok.names:Tok→List Nat→List Nat
 | .bY g _ cs,r=>g::fZ cs r
 | .row g _ _ _ _ _,r=>g::r
 | .map g _ _,r=>g::r
 | .nest g _ _ _,r=>g::r
 | .dat g _ _ _ _,r=>g::r
def kX:Ev→List Nat→List Nat
 |[],r=>r
 |(_,v)::l,r=>v.names (kX l r)
def dU:List Tok→List Nat→List Nat
 |[],r=>r
 |t::l,r=>t.names (dU l r)
def AA(d:Nat):List Nat→Bool
 |[]=>true
 |g::l=>bif Nat.beq (g % 1000000) d then false else AA d l
def bU(d:Nat)(env:Ev)(rs:List Tok):Bool:=AA d (kX env (dU rs []))
def MQ:Nat→List Nat→List Tok→Nat→(List Tok→List (Nat×Nat)→List Tok→Prop)→Prop
 |0,_,_,_,_=>False
 |_+1,[],rs,_,K=>K [] [] rs
 |n+1,g::todo,rs,i,K=>fT rs g (fun x rs'=>MQ n (x.names todo) rs' (i+1) fun tk σ rest=>K (x::tk) ((g,i)::σ) rest) (MQ n todo rs i K)
def Ee:SV→SV→Prop
 | .int k i,.int k' j=>i=j∧k=k'
 | .bool a,.bool b=>a=b
 |x,y=>x=y
def zD:List SV→List SV→Prop
 |[],[]=>True
 |a::l,b::m=>Ee a b∧zD l m
 |_,_=>False
def gJ(rs:List Tok):List Tok→Prop
 |[]=>True
 | .bY g t cs::ts=>pX rs g fun t' cs' rest=>(bif Nat.beq t' t then True else False)∧zD cs' cs∧gJ rest ts
 | .row g t s u xs us::ts=>gT rs g fun t' s' u' xs' us' rest=>match Nat.beq t' t&&Nat.beq s' s with
  |true=>if hu:qz u' u=true then(coe (cB hu) xs'=xs∧us<+:us')∧gJ rest ts else False
  |false=>False
 | .map g u kv::ts=>A8 rs g fun u' kv' rest=>if hu:qz u' u=true then Ns (cB hu) kv'=kv∧gJ rest ts else False
 | .nest g u xs us::ts=>CZ rs g fun u' xs' us' rest=>if hu:qz u' u=true then(coe (cB hu) xs'=xs∧us'=us)∧gJ rest ts else False
 | .dat g t s u xs::ts=>vK rs g fun t' s' u' xs' rest=>match Nat.beq t' t&&Nat.beq s' s with
  |true=>if hu:qz u' u=true then coe (cB hu) xs'=xs∧gJ rest ts else False
  |false=>False
def iw(ops:List Oper)(j:Nat):Option Nat:=match nth ops j with|some o=>o.dst|none=>none
def kE(env:Ev):Nat→Nat→Bool→Option Bool
 |0,_,_=>none
 |k+1,d,b=>match lk env d with
  |some (.bool c)=>match b with|true=>some c|false=>some (!c)
  |some (.gd d' b' (.bool c))=>match kE env k d' b' with
   |some e=>match b with|true=>some (e&&c)|false=>some (e&& !c)
   |none=>none
  |_=>none
inductive G where
 |no
 |free
 |at(d:Nat) (b:Bool) (c:Bool)
def lu(ops:List Oper)(env:Ev):Option (Nat×Bool)→G
 |none=>.free
 |some (j,b)=>match iw ops j with
  |some d=>match kE env 8 d b with|some c=>.at d b c|none=>.no
  |none=>.no
inductive X where
 |n|r|x (id:Nat)
def uX(v:Value)(t:TypeId)(s n:Nat)(ds:List D)(pre:List Value):dK where
 p w F:=∃bs us,F=tT v++bs∧GR 0 w t s v n ds bs us∧pre<+:us
 keep:=fun⟨bs,us,e,h,hp⟩ k=>⟨bs,us,e,by
  subst e;have kb:Keeps _ _ bs:=k.sub fun b hb=>by simp[hb]
  exact⟨jD h.row fun g hg=>k.2 g (by simp[jB,hg]),h.tn.keep kb,⟨h.own.1,fun b hb=>by obtain⟨h0,cur,t,h1⟩:=h.own.2 b hb;exact⟨h0,cur,t,(kb.2 b hb).trans h1⟩⟩,h.out⟩,hp⟩
 lt:=fun⟨bs,us,e,h,_⟩ b hb=>by
  subst e;rcases List.mem_append.1 hb with hb|hb
  ·exact(h.lt b (jB.1 hb)).2
  ·exact h.tn.lt b hb
structure Cx where
 w0:World
 F0:List Nat
mutual
def Den(cx:Cx)(β:Nat→Value):SV→Value→Prop
 | .int k i,v=>v=.int k i
 | .bool b,v=>v=.bool b
 | .raw x,v=>v=x∧x.oneCell'=true
 | .rsl e xs,v=>nY cx.w0 cx.F0 (.sl (List.length (α:=El e) xs) (List.flatMap (enc e) xs)) v
 | .rp u x,v=>∃b o,v=.pointer (some ⟨b,o,none⟩)∧zJ cx.w0 cx.F0 b o (enc u x)
 | .ptr g o,v=>∃b,β g=.pointer (some ⟨b,0,none⟩)∧v=.pointer (some ⟨b,o,none⟩)
 | .sl g,v=>v=β g∧∃A n c,v=.slice A n c
 | .ep g s i o,v=>∃b m c,β g=.slice (some ⟨b,0,none⟩) m c∧i.toNat<m∧v=.pointer (some ⟨b,i.toNat*s+o,none⟩)
 | .agg l,v=>∃vs:List Value,v=.agg vs.toArray∧au cx β l vs
 | .tup l,v=>∃vs:List Value,v=.tuple vs.toArray∧au cx β l vs
 | .fn f l,v=>∃vs:List Value,v=.func (.func f) #[] vs.toArray∧au cx β l vs
 | .un,v=>v=undef
 | .gd _ _ _,_=>False
 | .nh _ _ n hdr,v=>v=hdr∧∃A c,hdr=.slice A n c∧(0<n→∃b o,A=some ⟨b,o,none⟩)
 | .np _ _ n hdr s i j,v=>∃b o c,hdr=.slice (some ⟨b,o,none⟩) n c∧v=.pointer (some ⟨b,o+i.toNat*s+j,none⟩)
 | .mp g,v=>v=β g∧∃r,v=.map (some r)
 | .nn e xs,v=>nY cx.w0 cx.F0 (.sl (List.length (α:=El e) xs) (List.flatMap (enc e) xs)) v∧∃a n c,v=.slice (some a) n c
 | .sx g s lo n,v=>∃b m c c',β g=.slice (some ⟨b,0,none⟩) m c∧lo+n≤m∧v=.slice (some ⟨b,lo*s,none⟩) n c'
def au(cx:Cx)(β:Nat→Value):List SV→List Value→Prop
 |[],vs=>vs=[]
 |s::l,vs=>∃v vs',vs=v::vs'∧Den cx β s v∧au cx β l vs'
end
def aF(P:Program)(f:FuncId)(args:List SV)(r:SV):Prop:=dA P f=true∧∀(cx:Cx) (β:Nat→Value) (w:World) (fr:List dK) (vs:List Value),Inv cx.w0 cx.F0 w fr→au cx β args vs→
 Calls P f vs.toArray w fun e w'=>∃v,e=.returned v∧Den cx β r v∧Inv cx.w0 cx.F0 w' fr
def Tok.res(cx:Cx)(β:Nat→Value):Tok→dK
 | .bY g t cs=>{
  p:=fun w F=>∃b us,β g=.pointer (some ⟨b,0,none⟩)∧au cx β cs us∧us.all (·.oneCell')=true∧(Bh b us t).p w F
  keep:=fun⟨b,us,h1,h2,h3,h4⟩ k=>⟨b,us,h1,h2,h3,(Bh b us t).keep h4 k⟩
  lt:=fun⟨b,us,h1,h2,h3,h4⟩=>(Bh b us t).lt h4}
 | .row g t s u xs us=>{
  p:=fun w F=>u.size=s∧(uX (β g) t s (List.length (α:=El u) xs) (List.flatMap (enc u) xs) us).p w F
  keep:=fun⟨h1,h2⟩ k=>⟨h1,(uX (β g) t s _ _ us).keep h2 k⟩
  lt:=fun⟨h1,h2⟩=>(uX (β g) t s _ _ us).lt h2}
 | .map g u kv=>{
  p:=fun w F=>u1 u=true∧∃(r:Nat) (es:List MapEntry) (cl:Nat),β g=.map (some r)∧F=[r]∧w.heap[r]? =some (.map es.toArray cl)∧es.map (fun e=>(e.key,e.val))=kv.map (fun x=>(Value.int .i64 x.1,sH u x.2))
  keep:=fun⟨h1,r,es,cl,h2,h3,h4,h5⟩ k=>⟨h1,r,es,cl,h2,h3,(k.2 r (by rw[h3];simp)).trans h4,h5⟩
  lt:=fun⟨h1,r,es,cl,h2,h3,h4,h5⟩ b hb=>by rw[h3]at hb;simp at hb;subst hb;exact(Array.getElem?_eq_some_iff.1 h4).1}
 | .nest _ u xs us=>dL us (List.flatMap (enc u) xs)
 | .dat g t s u xs=>{
  p:=fun w F=>u.size=s∧∃us:List Value,au cx β (List.flatMap (dS u) xs) us∧us.all (·.oneCell')=true∧(uX (β g) t s (List.length (α:=El u) xs) (us.map D.v) []).p w F
  keep:=fun⟨h1,us,h2,h3,h4⟩ k=>⟨h1,us,h2,h3,(uX (β g) t s _ _ []).keep h4 k⟩
  lt:=fun⟨h1,us,h2,h3,h4⟩=>(uX (β g) t s _ _ []).lt h4}
def aC(P:Program)(f:FuncId)(args:List SV)(ts:List Tok)(r:SV)(ts':List Tok):Prop:=dA P f=true∧∀(cx:Cx) (β:Nat→Value) (w:World) (fr:List dK) (vs:List Value),Inv cx.w0 cx.F0 w (ts.map (Tok.res cx β)++fr)→au cx β args vs→
 Calls P f vs.toArray w fun e w'=>∃v β',e=.returned v∧(∀g,10000≤g→g<10000+ts.length→β' g=β g)∧Den cx β' r v∧Inv cx.w0 cx.F0 w' (ts'.map (Tok.res cx β')++fr)
def F8:Option Bool→Prop→Prop
 |none,p=>p
 |some c,p=>c=true→p
def rK(gc:Option Bool)(r:R)(K:SV→Prop):Prop:=match r with
 | .no=>False
 | .ok v=>K v
 | .vc p v=>match gc with
  |none=>p∧K v
  |some c=>(c=true→p)∧K v
 | .ex f=>∃k:Nat,rK gc (f k) K
def Hw (P : Program) (t n : Nat) : Bool := !P.stoodInHeld t && (!P.eqGuardType P.depth t && ((match P.underlying t with | some (.struct _) => true | _ => false) && (((P.fieldsOf t).toList.all fun f => f.name != "_" && (match P.underlying f.type with | some (.int .i64) => true | _ => false)) && ((P.fieldsOf t).toList.map (·.offset) == List.range' 0 n && (P.fieldsOf t).toList.length == n))))
def tq:List SV→Option (List Int)
 |[]=>some []
 | .int .i64 i::l=>match tq l with|some r=>some (i::r)|none=>none
 |_::_=>none
def OC(o:BinOp)(xs ys:List Int):Bool:=match o with| .eql=>jd xs ys|_=> !jd xs ys
def EK(P:Program)(gc:Option Bool)(o:BinOp)(t:TypeId)(l m:List SV)(K:SV→Prop):Prop:=match tq l,tq m with
 |some xs,some ys=>match o with
  | .eql=>F8 gc (Hw P t xs.length=true∧ys.length=xs.length)∧K (.bool (jd xs ys))
  | .neq=>F8 gc (Hw P t xs.length=true∧ys.length=xs.length)∧K (.bool (!jd xs ys))
  |_=>False
 |_,_=>False
def L8(P:Program)(t i o:Nat):Bool:=match P.underlying t with
 |some (.struct fs)=>(match fs[i]? with|some f=>f.offset==o&&qo P f.type==some false|none=>false)
 |_=>false
def wT(P:Program)(ti:TI)(env:Ev)(rs:List Tok)(g:Option (Nat×Bool))(gc:Option Bool)(op:Op)(K:SV→Prop):Prop:=match op with
 | .call c=>match c.callee with
  | .value x=>match evs env g x,zZ env g c.args.toList with
   |some (.fn f l),some vs=>∃r,F8 gc (aF P f (vs++l) r)∧K r
   |_,_=>False
  |_=>rK gc (sM ti env rs g (.call c)) K
 | .binOp o t x y z=>match evs env g x,evs env g y with
  |some (.agg l),some (.agg m)=>EK P gc o t l m K
  |_,_=>rK gc (sM ti env rs g (.binOp o t x y z)) K
 | .field t x i=>match evs env g x with
  |some (.agg l)=>∃o:Nat,F8 gc (L8 P t i o=true)∧∃v,nth l o=some v∧K v
  |_=>False
 |op=>rK gc (sM ti env rs g op) K
def mem(t:Nat):List Nat→Bool
 |[]=>false
 |x::l=>bif Nat.beq t x then true else mem t l
def Tok.M7:Tok→List Nat→Bool
 | .bY g _ _,ns=>mem g ns
 | .row g _ _ _ _ _,ns=>mem g ns
 | .map g _ _,ns=>mem g ns
 | .nest g _ _ _,ns=>mem g ns
 | .dat g _ _ _ _,ns=>mem g ns
def vQ(d:Nat):List (Nat×Nat)→Nat→List (Nat×Nat)
 |[],i=>[(i,d),(i+1,d+1000000),(i+2,d+2000000),(i+3,d+3000000),(i+4,d+4000000),(i+5,d+5000000),(i+6,d+6000000),(i+7,d+7000000),(i+8,d+8000000),(i+9,d+9000000)]
 |(g,c)::l,i=>(c,g)::vQ d l (i+1)
def GV:List Tok→List Tok→(List Tok→Prop)→Prop
 |[],e,K=>K e
 |x::l,e,K=>GV l e fun l'=>K (x::l')
def xu:List Tok→List Nat
 |[]=>[]
 | .row g _ _ _ _ _::l=>g::xu l
 |_::l=>xu l
def Js:List SV→Bool
 |[]=>false
 |v::l=>match v with
  | .nh _ _ _ _=>true
  | .np _ _ _ _ _ _ _=>true
  |_=>Js l
def Pt(P:Program)(rs:List Tok)(d f:Nat)(vs:List SV)(K:SV→List Tok→Prop):Prop:=
 MQ 64 (fZ vs (bif Js vs then xu rs else[])) rs 10000 fun tk σ rest=>D9 true σ vs fun vs'=>kH true σ tk fun tk'=>
  ∃r ts',aC P f vs' tk' r ts'∧I9 true (vQ d σ 10000) r fun r'=>kH true (vQ d σ 10000) ts' fun ts''=>GV ts'' rest fun rs'=>K r' rs'
def jJ:U→Bool
 | .pair a b=>jJ a&&jJ b
 | .sl _=>false
 | .tree _=>false
 |_=>true
def LG(P:Program)(ti:TI)(env:Ev)(rs:List Tok)(g:Option (Nat×Bool))(d:Nat)(c:Call)(K:SV→List Tok→Prop):Prop:=
 match c.args.toList,c.argTypes.toList with
 |[x,y],[t,t']=>bif Nat.beq t t' then(match lk ti t,evs env g x,evs env g y with
  |some (.sl e s u),some (.sl h),some (.sl k)=>gT rs h fun e1 s1 u1 xs us rs1=>gT rs1 k fun e2 s2 u2 ys _ rs2=>bif Nat.beq e1 e&&Nat.beq s1 s&&Nat.beq s2 s then(if hu:qz u2 u1=true then
    xs.length+ys.length≤1073741824∧K (.sl d) (.row d e s u1 (xs++coe (cB hu) ys) us::rs2)else False)else False
  |some (.sl e s u),some (.raw (.slice none 0 0)),some (.sl k)=>gT rs k fun e2 s2 u2 ys _ rs2=>bif Nat.beq s2 s then
    ys.length≤1073741824∧K (.sl d) (.row d e s u2 ys []::rs2)else False
  |some (.sl e s u),some (.sl h),some (.rsl e2 ys)=>bif jJ e2&&Nat.beq e2.size s then(gT rs h fun e1 s1 u1 xs us rs1=>bif Nat.beq e1 e&&Nat.beq s1 s then(if hu:qz e2 u1=true then
    xs.length+List.length (α:=El e2) ys≤1073741824∧K (.sl d) (.row d e s u1 (xs++coe (cB hu) ys) us::rs1)else False)else False)else(match iV rs h with
   |some _=>vK rs h fun e1 s1 u1 xs rs1=>bif Nat.beq e1 e&&Nat.beq s1 s then(if hu:qz e2 u1=true then
    List.length (α:=El u1) xs+List.length (α:=El e2) ys≤1073741824∧K (.sl d) (.dat d e s u1 (xs++coe (cB hu) ys)::rs1)else False)else False
   |none=>gT rs h fun e1 s1 _ xs _ rs1=>match xs with
    |[]=>bif (Nat.beq e1 e&&Nat.beq s1 s)&&Nat.beq e2.size s then List.length (α:=El e2) ys≤1073741824∧K (.sl d) (.dat d e s e2 ys::rs1)else False
    |_::_=>False)
  |some (.sl e s u),some (.raw (.slice none 0 0)),some (.rsl e2 ys)=>bif jJ e2&&Nat.beq e2.size s then
    List.length (α:=El e2) ys≤1073741824∧K (.sl d) (.row d e s e2 ys []::rs)else(bif Nat.beq e2.size s then List.length (α:=El e2) ys≤1073741824∧K (.sl d) (.dat d e s e2 ys::rs)else False)
  |some (.sl e s u),some (.sl h),some (.nn e2 ys)=>bif jJ e2&&Nat.beq e2.size s then(gT rs h fun e1 s1 u1 xs us rs1=>bif Nat.beq e1 e&&Nat.beq s1 s then(if hu:qz e2 u1=true then
    xs.length+List.length (α:=El e2) ys≤1073741824∧K (.sl d) (.row d e s u1 (xs++coe (cB hu) ys) us::rs1)else False)else False)else(gT rs h fun e1 s1 _ xs _ rs1=>match xs with
    |[]=>bif (Nat.beq e1 e&&Nat.beq s1 s)&&Nat.beq e2.size s then List.length (α:=El e2) ys≤1073741824∧K (.sl d) (.dat d e s e2 ys::rs1)else False
    |_::_=>False)
  |_,_,_=>False)else False
 |_,_=>False
def uV(P:Program)(ti:TI)(env:Ev)(rs:List Tok)(g:Option (Nat×Bool))(d:Nat)(op:Op)(K:SV→List Tok→Prop):Prop:=match op with
 | .alloc t=>match lk ti t with
  |some (.st _ _ _ zs)=>K (.ptr d 0) (.bY d t zs::rs)
  |some (.sc z)=>K (.ptr d 0) (.bY d t [z]::rs)
  |some .bool=>K (.ptr d 0) (.bY d t [.bool false]::rs)
  |some (.ptr _)=>K (.ptr d 0) (.bY d t [.raw (.pointer none)]::rs)
  |some (.sl _ _ _)=>K (.ptr d 0) (.bY d t [.raw (.slice none 0 0)]::rs)
  |some (.mp _)=>K (.ptr d 0) (.bY d t [.raw (.map none)]::rs)
  |none=>False
 | .box t x=>match evs env g x with
  |some v=>match v with
   | .agg l=>bif zP l then K (.ptr d 0) (.bY d t l::rs)else False
   |v=>bif BA v then K (.ptr d 0) (.bY d t [v]::rs)else False
  |none=>False
 | .buildSlice t m ps=>match lk ti t with
  |some (.sl e s u)=>match qI env g ps.toList 0 with
   |some cs=>bif Nat.beq cs.length m&&Nat.ble (m*s) 16777216 then(bif Ia cs&&Nat.beq (hol s).size s then Gf (hol s) cs rs fun xs rs'=>K (.sl d) (.row d e s (hol s) xs []::rs')else Gf u cs rs fun xs rs'=>K (.sl d) (.row d e s u xs []::rs'))else False
   |none=>False
  |_=>False
 | .makeMap t none=>match lk ti t with
  |some (.mp u)=>K (.mp d) (.map d u []::rs)
  |_=>False
 | .makeSlice t l c=>match lk ti t,evs env g l,evs env g c with
  |some (.sl e s u),some (.int .i64 i),some (.int .i64 j)=>match lk ti e with
   |some z=>bif lI ((lJ z).map qx) (dV u)&&Nat.beq (dV u).length s then(0≤i∧i≤j∧j≤2097152)∧K (.sl d) (.row d e s u (List.replicate i.toNat (dflt u)) []::rs)else False
   |none=>False
  |_,_,_=>False
 | .call c=>match c.callee with
  | .value x=>match evs env g x,zZ env g c.args.toList with
   |some (.fn f l),some vs=>Pt P rs d f (vs++l) K
   |_,_=>False
  | .builtin .append=>LG P ti env rs g d c K
  |_=>False
 | .slice t x none (some y) none=>match lk ti t,evs env g x,evs env g y with
  |some (.sl e s _),some (.sl h),some (.int .i64 i)=>gT rs h fun e1 s1 u xs _ rs1=>bif Nat.beq e1 e&&Nat.beq s1 s then(0≤i∧i≤(xs.length:Nat))∧K (.sl d) (.row d e s u (xs.take i.toNat) []::rs1)else False
  |_,_,_=>False
 |_=>False
def OE(ti:TI)(t:TypeId)(v:SV)(K:List SV→Prop):Prop:=match lk ti t with
 |some (.st _ n _ _)=>match v with| .agg l=>bif Nat.beq l.length n&&zP l then K l else False|_=>False
 |some _=>bif BA v then K [v]else False
 |none=>False
def xD:(u:U)→El u→Nat→List SV→(El u→Prop)→Prop
 | .pair a b,x,o,l,K=>bif Nat.beq o 0&&Nat.beq l.length (U.pair a b).size then mkK (.pair a b) l [] (fun y _ _=>K y)
  else bif Nat.blt o a.size then(bif Nat.ble (o+l.length) a.size then xD a x.1 o l fun y=>K (y,x.2)else False)else xD b x.2 (o-a.size) l fun y=>K (x.1,y)
 | .tree _,_,_,_,_=>False
 |u,_,o,l,K=>bif Nat.beq o 0&&Nat.beq l.length 1 then mkK u l [] (fun y _ _=>K y)else False
def oW:(u:U)→El u→Nat→List SV→List Tok→(El u→List Tok→Prop)→Prop
 | .pair a b,x,o,l,rs,K=>bif Nat.beq o 0&&Nat.beq l.length (U.pair a b).size then mkK (.pair a b) l rs (fun y _ rs'=>K y rs')
  else bif Nat.blt o a.size then(bif Nat.ble (o+l.length) a.size then oW a x.1 o l rs fun y rs'=>K (y,x.2) rs' else False)else oW b x.2 (o-a.size) l rs fun y rs'=>K (x.1,y) rs'
 | .tree _,_,_,_,_,_=>False
 |u,_,o,l,rs,K=>bif Nat.beq o 0&&Nat.beq l.length 1 then mkK u l rs (fun y _ rs'=>K y rs')else False
def wR:(u:U)→El u→Nat→((e:U)→List (El e)→(List (El e)→El u)→Prop)→Prop
 | .pair a b,x,o,K=>bif Nat.blt o a.size then wR a x.1 o (fun e ys F=>K e ys fun l=>(F l,x.2))else wR b x.2 (o-a.size) fun e ys F=>K e ys fun l=>(x.1,F l)
 | .sl e,xs,o,K=>bif Nat.beq o 0 then K e xs id else False
 |_,_,_,_=>False
def Bg:(u:U)→List SV→(El u→List SV→Prop)→Prop
 | .int k,c::l,K=>match c with| .int k' i=>bif k'==k then K i l else False|_=>False
 | .bool,c::l,K=>match c with| .bool b=>K b l|_=>False
 | .str,c::l,K=>match c with| .raw (.string x)=>K x l|_=>False
 | .pair a b,l,K=>Bg a l fun x l'=>Bg b l' fun y l''=>K (x,y) l''
 | .sl e,c::l,K=>match c with
  | .rsl e' xs=>if hu:qz e' e=true then K (coe (cB hu) xs) l else False
  | .raw (.slice none 0 0)=>K [] l
  |_=>False
 | .tree e,l,K=>Bg e l fun x l'=>match l' with
  |c::l''=>(match c with
   | .rsl e' xs=>if hu:qz e' (.tree e)=true then K (.node x (coe (cB hu) xs)) l'' else False
   | .raw (.slice none 0 0)=>K (.node x []) l''
   |_=>False)
  |[]=>False
 |_,_,_=>False
def Gd(u:U):SV→Bool
 | .agg l=>Nat.beq l.length u.size&&Nat.beq u.size 2
 |_=>Nat.beq 1 u.size
def oZ(ti:TI)(env:Ev)(rs:List Tok)(g:Option (Nat×Bool))(op:Op)(K:List Tok→Prop):Prop:=match op with
 | .store t x y=>match evs env g x,evs env g y with
  |some (.ptr h o),some v=>match v with
   | .agg l=>match lk ti t with
    |some (.st _ n _ _)=>bif zP l&&Nat.beq l.length n then pX rs h fun t' cs rest=>setAt o l cs fun cs'=>K (.bY h t' cs'::rest)else False
    |_=>False
   |v=>match lk ti t with
    |some (.st _ _ _ _)=>False
    |some _=>bif BA v then pX rs h fun t' cs rest=>setAt o [v] cs fun cs'=>K (.bY h t' cs'::rest)else False
    |none=>False
  |some (.ep h s i o),some v=>OE ti t v fun l=>match iV rs h with
   |none=>gT rs h fun e s1 u xs _ rest=>bif Nat.beq s s1 then oW u (elt (dflt u) xs i) o l rest fun y rest'=>K (.row h e s1 u (xs.set i.toNat y) []::rest')else False
   |some _=>vK rs h fun e s1 u xs rest=>bif Nat.beq s s1&&Nat.beq o 0 then Bg u l fun y l'=>(match l' with
    |[]=>K (.dat h e s1 u (xs.set i.toNat y)::rest)
    |_::_=>False)else False
  |some (.np k o n hdr s2 i j),some v=>OE ti t v fun l=>∃q,gT rs q fun e s u xs us rest=>wR u (elt (dflt u) xs k) o fun e2 ys F=>bif Nat.beq s2 e2.size&&jJ e2 then
    (Cu xs us k s o hdr∧0≤i∧i<(n:Nat))∧xD e2 (elt (dflt e2) ys i) j l fun y=>K (.row q e s u (xs.set k.toNat (F (List.set (α:=El e2) ys i.toNat y))) us::rest)else False
  |_,_=>False
 | .mapUpdate t x y z=>match lk ti t,evs env g x,evs env g y,evs env g z with
  |some (.mp u),some (.mp h),some (.int .i64 i),some v=>A8 rs h fun u' kv rest=>bif qz u' u then(bif Gd u' v then mkK u' (cellsOf v) [] fun y _ _=>K (.map h u' (gW kv i y)::rest)else False)else False
  |_,_,_,_=>False
 | .call ⟨.builtin .clear,as,ts⟩=>match as.toList,ts.toList with
  |[x],[t]=>match lk ti t,evs env g x with
   |some (.sl e s _),some (.sx h s2 lo n)=>match lk ti e with
    |some z=>gT rs h fun e1 s1 u xs _ rest=>bif Nat.beq e1 e&&Nat.beq s1 s&&Nat.beq s2 s&&lI ((lJ z).map qx) (dV u)&&Nat.beq (dV u).length s then lo+n=xs.length∧K (.row h e s u (xs.take lo++List.replicate n (dflt u)) []::rest)else False
    |none=>False
   |_,_=>False
  |_,_=>False
 |_=>False
inductive Kd where
 |pure|st|call
def kind:Op→Kd
 | .alloc _=>.st
 | .box _ _=>.st
 | .buildSlice _ _ _=>.st
 | .makeSlice _ _ _=>.st
 | .makeMap _ _=>.st
 | .slice _ _ none (some _) none=>.st
 | .call c=>match c.callee with
  | .value _=>.call
  | .builtin .append=>.st
  |_=>.pure
 |_=>.pure
def gQ(P:Program)(ti:TI)(nt:Nat)(ops:List Oper)(dd:List Nat)(l:List Oper):Ev→List Tok→(Ev→List Tok→Prop)→Prop:=
 List.rec (motive:=fun _=>List Nat→Ev→List Tok→(Ev→List Tok→Prop)→Prop) (fun _ env rs K=>K env rs) (fun o _ ih dd env rs K=>match o.dst with
  |none=>match lu ops env o.guard with
   | .no=>False
   | .free=>oZ ti env rs none o.op fun rs'=>ih dd env rs' K
   | .at gd gb gc=>(gc=true→oZ ti env rs (some (gd,gb)) o.op fun rs'=>ih dd env rs' K)∧(gc=false→ih dd env rs K)
  |some d=>bif Nat.blt d nt&& !mem d dd then(match lu ops env o.guard with
   | .no=>False
   | .free=>match kind o.op with
    | .pure=>wT P ti env rs none none o.op fun v=>ih (d::dd) ((d,v)::env) rs K
    | .st=>bif bU d env rs then uV P ti env rs none d o.op fun v rs'=>ih (d::dd) ((d,v)::env) rs' K else False
    | .call=>(wT P ti env rs none none o.op fun v=>ih (d::dd) ((d,v)::env) rs K)∨(bif bU d env rs then uV P ti env rs none d o.op fun v rs'=>ih (d::dd) ((d,v)::env) rs' K else False)
   | .at gd gb gc=>bif mem gd dd then(match kind o.op with
    | .pure=>wT P ti env rs (some (gd,gb)) (some gc) o.op fun v=>ih (d::dd) ((d,.gd gd gb v)::env) rs K
    | .st=>(gc=true→bif bU d env rs then uV P ti env rs (some (gd,gb)) d o.op fun v rs'=>ih (d::dd) ((d,v)::env) rs' K else False)∧(gc=false→ih (d::dd) ((d,.un)::env) rs K)
    | .call=>(wT P ti env rs (some (gd,gb)) (some gc) o.op fun v=>ih (d::dd) ((d,.gd gd gb v)::env) rs K)∨
     ((gc=true→bif bU d env rs then uV P ti env rs (some (gd,gb)) d o.op fun v rs'=>ih (d::dd) ((d,v)::env) rs' K else False)∧(gc=false→∃v,ih (d::dd) ((d,.gd gd gb v)::env) rs K)))else False)else False) l dd
theorem Et{P:Program}{ti:TI}{nt:Nat}{ops:List Oper}{dd:List Nat}{o:Oper}{rest:List Oper}{env:Ev}{rs:List Tok}{K:Ev→List Tok→Prop}:gQ P ti nt ops dd (o::rest) env rs K=(match o.dst with
  |none=>match lu ops env o.guard with
   | .no=>False
   | .free=>oZ ti env rs none o.op fun rs'=>gQ P ti nt ops dd rest env rs' K
   | .at gd gb gc=>(gc=true→oZ ti env rs (some (gd,gb)) o.op fun rs'=>gQ P ti nt ops dd rest env rs' K)∧(gc=false→gQ P ti nt ops dd rest env rs K)
  |some d=>bif Nat.blt d nt&& !mem d dd then(match lu ops env o.guard with
   | .no=>False
   | .free=>match kind o.op with
    | .pure=>wT P ti env rs none none o.op fun v=>gQ P ti nt ops (d::dd) rest ((d,v)::env) rs K
    | .st=>bif bU d env rs then uV P ti env rs none d o.op fun v rs'=>gQ P ti nt ops (d::dd) rest ((d,v)::env) rs' K else False
    | .call=>(wT P ti env rs none none o.op fun v=>gQ P ti nt ops (d::dd) rest ((d,v)::env) rs K)∨(bif bU d env rs then uV P ti env rs none d o.op fun v rs'=>gQ P ti nt ops (d::dd) rest ((d,v)::env) rs' K else False)
   | .at gd gb gc=>bif mem gd dd then(match kind o.op with
    | .pure=>wT P ti env rs (some (gd,gb)) (some gc) o.op fun v=>gQ P ti nt ops (d::dd) rest ((d,.gd gd gb v)::env) rs K
    | .st=>(gc=true→bif bU d env rs then uV P ti env rs (some (gd,gb)) d o.op fun v rs'=>gQ P ti nt ops (d::dd) rest ((d,v)::env) rs' K else False)∧(gc=false→gQ P ti nt ops (d::dd) rest ((d,.un)::env) rs K)
    | .call=>(wT P ti env rs (some (gd,gb)) (some gc) o.op fun v=>gQ P ti nt ops (d::dd) rest ((d,.gd gd gb v)::env) rs K)∨
     ((gc=true→bif bU d env rs then uV P ti env rs (some (gd,gb)) d o.op fun v rs'=>gQ P ti nt ops (d::dd) rest ((d,v)::env) rs' K else False)∧(gc=false→∃v,gQ P ti nt ops (d::dd) rest ((d,.gd gd gb v)::env) rs K)))else False)else False):=rfl
structure dx where
 tok:Tok
 prod:Option Nat
 cons:Option Nat
structure jM where
 i:Nat
 d:Nat
 v:SV
def fJ{α:Type u}:List α→α→(List α→Prop)→Prop
 |[],x,K=>K [x]
 |y::l,x,K=>fJ l x fun l'=>K (y::l')
def Lx:List Nat→List Nat→List Nat
 |[],r=>r
 |x::l,r=>bif mem x r then Lx l r else Lx l (x::r)
def GN(anc:List (List Nat)):List Edge→List Nat→List Nat
 |[],r=>r
 |e::l,r=>bif Region.binds .any e then GN anc l (Lx (match nth anc e.on with|some A=>e.on::A|none=>[e.on]) r)else GN anc l r
def Dy:List Nat→(List Nat→Prop)→Prop
 |[],K=>K []
 |x::l,K=>Dy l fun l'=>K (x::l')
def Dq(anc:List (List Nat))(i j:Nat):Bool:=Nat.beq j i||(match nth anc j with|some A=>mem i A|none=>false)
def Gh(anc:List (List Nat))(i:Nat):List jM→Ev→(Ev→Prop)→Prop
 |[],base,K=>K base
 |⟨xi,xd,xv⟩::l,base,K=>bif Dq anc i xi then Gh anc i l base fun l'=>K ((xd,xv)::l')else Gh anc i l base K
def F3(A:List Nat):List jM→Ev→(Ev→Prop)→Prop
 |[],base,K=>K base
 |⟨xi,xd,xv⟩::l,base,K=>bif mem xi A then F3 A l base fun l'=>K ((xd,xv)::l')else F3 A l base K
def vI(env:Ev)(g:Option (Nat×Bool)):List Operand→List Nat→List Nat
 |[],r=>r
 |x::l,r=>match evs env g x with|some v=>v.names (vI env g l r)|none=>vI env g l r
def ow:List Nat→List Nat→(List Nat→Prop)→Prop
 |[],ns,K=>K ns
 |g::l,ns,K=>bif mem g ns then ow l ns K else ow l (g::ns) K
def r9:List dx→List Nat→(List Nat→Prop)→Prop
 |[],ns,K=>K ns
 |x::l,ns,K=>bif x.tok.M7 ns then ow (x.tok.names []) ns fun ns'=>r9 l ns' K else r9 l ns K
def nE(labs:List dx):Nat→List Nat→(List Nat→Prop)→Prop
 |0,ns,K=>K ns
 |k+1,ns,K=>r9 labs ns fun ns'=>nE labs k ns' K
theorem lZ:∀{l ns:List Nat} {K:List Nat→Prop},ow l ns K→∃ns',K ns'
 |[],ns,K,h=>⟨ns,h⟩
 |g::l,ns,K,h=>by
  unfold ow at h;cases hb:mem g ns with
  |true=>rw[hb]at h;exact lZ (l:=l) h
  |false=>rw[hb]at h;exact lZ (l:=l) h
theorem qJ:∀{l:List dx} {ns:List Nat} {K:List Nat→Prop},r9 l ns K→∃ns',K ns'
 |[],ns,K,h=>⟨ns,h⟩
 |x::l,ns,K,h=>by
  unfold r9 at h;cases hb:x.tok.M7 ns with
  |true=>
   rw[hb]at h;obtain⟨ns',h⟩:=lZ h;exact qJ (l:=l) h
  |false=>rw[hb]at h;exact qJ (l:=l) h
theorem pV{labs:List dx}:∀{k:Nat} {ns:List Nat} {K:List Nat→Prop},nE labs k ns K→∃ns',K ns'
 |0,ns,K,h=>⟨ns,h⟩
 |k+1,ns,K,h=>by
  unfold nE at h;obtain⟨ns',h⟩:=qJ h;exact pV (k:=k) h
def GA(ns:List Nat):List dx→Nat→(List Nat→List Tok→Prop)→Prop
 |[],_,K=>K [] []
 |x::l,i,K=>match x.cons with
  |none=>bif x.tok.M7 ns then GA ns l (i+1) fun r t=>K (i::r) (x.tok::t)else GA ns l (i+1) K
  |some _=>GA ns l (i+1) K
def jL(k:Nat)(ns:List Nat):List dx→(List dx→List Tok→Prop)→Prop
 |[],K=>K [] []
 |x::l,K=>match x.cons with
  |none=>bif x.tok.M7 ns then jL k ns l fun r t=>K (⟨x.tok,x.prod,some k⟩::r) (x.tok::t)else jL k ns l fun r t=>K (⟨x.tok,x.prod,none⟩::r) t
  |some c=>jL k ns l fun r t=>K (⟨x.tok,x.prod,some c⟩::r) t
def Iu(k:Nat):List Tok→(List dx→Prop)→Prop
 |[],K=>K []
 |t::ts,K=>Iu k ts fun r=>K (⟨t,some k,none⟩::r)
def GU:List dx→List dx→(List dx→Prop)→Prop
 |[],e,K=>K e
 |x::l,e,K=>GU l e fun r=>K (x::r)
def lq(k:Nat)(l:List dx)(ts:List Tok)(K:List dx→Prop):Prop:=Iu k ts fun r=>GU l r K
def Ed:List Tok→(List dx→Prop)→Prop
 |[],K=>K []
 |t::ts,K=>Ed ts fun r=>K (⟨t,none,none⟩::r)
def zA:List dx→(List Tok→Prop)→Prop
 |[],K=>K []
 |x::l,K=>match x.cons with
  |none=>zA l fun r=>K (x.tok::r)
  |some _=>zA l K
def GK:List jM→Ev→(Ev→Prop)→Prop
 |[],base,K=>K base
 |⟨_,xd,xv⟩::l,base,K=>GK l base fun l'=>K ((xd,xv)::l')
def qy:List Oper→Nat→List (Nat×Nat)
 |[],_=>[]
 |o::l,i=>match o.dst with|some d=>(d,i)::qy l (i+1)|none=>qy l (i+1)
def gu(dl:List (Nat×Nat))(i:Nat)(A:List Nat):List Nat→Bool
 |[]=>true
 |g::l=>(match lk dl (g % 1000000)with|none=>true|some k=>Nat.beq k i||mem k A)&&gu dl i A l
def BD(dl:List (Nat×Nat)):List Nat→Bool
 |[]=>true
 |g::l=>(match lk dl (g % 1000000)with|none=>true|some _=>false)&&BD dl l
def mD:List dx→List Nat→List Nat
 |[],r=>r
 |x::l,r=>x.tok.names (mD l r)
def yS(dl:List (Nat×Nat)):List Nat→Ev→(Ev→List jM→Prop)→Prop
 |_,[],K=>K [] []
 |seen,(t,v)::l,K=>match lk dl t with
  |some j=>bif mem t seen then yS dl seen l K else yS dl (t::seen) l (fun l' o=>K l' (⟨j,t,v⟩::o))
  |none=>yS dl seen l fun l' o=>K ((t,v)::l') o
def tV:List dx→List Nat→List Nat
 |[],r=>r
 |x::l,r=>match x.tok with
  | .row g _ _ _ _ _=>g::tV l r
  |_=>tV l r
def wants(env:Ev)(g:Option (Nat×Bool)):List Operand→Bool
 |[]=>false
 |x::l=>match evs env g x with
  |some (.nh _ _ _ _)=>true
  |some (.np _ _ _ _ _ _ _)=>true
  |_=>wants env g l
def qd(env:Ev)(g:Option (Nat×Bool))(l:List Operand)(labs:List dx):List Nat:=bif wants env g l then tV labs (vI env g l [])else vI env g l []
def KN:Op→Bool
 | .load _ _=>true
 | .indexAddr _ _ _=>true
 | .call _=>true
 | .lookup _ _ _ _=>true
 |_=>false
def mH:List jM→List Nat→List Nat
 |[],r=>r
 |x::l,r=>x.v.names (mH l r)
def GQ:List Oper→List (List Nat)→(List (List Nat)→Prop)→Prop
 |[],anc,K=>K anc
 |o::l,anc,K=>Dy (GN anc o.after.toList []) fun A=>fJ anc A fun anc'=>GQ l anc' K
def sZ(ops:List Oper)(env:Ev)(A:List Nat)(g:Option (Nat×Bool)):G:=match g with
 |none=>.free
 |some (j,b)=>bif mem j A then lu ops env (some (j,b))else .no
def jU:SV→Bool
 | .gd _ _ _=>false
 |_=>true
def xQ(P:Program)(ti:TI)(nt:Nat)(ops:List Oper)(dl:List (Nat×Nat))(base:Ev)(olds:List jM)(anc:List (List Nat))(i:Nat)(l:List Oper):List jM→List dx→List (List Nat)→(Ev→List Tok→Prop)→Prop:=
 List.rec (motive:=fun _=>Nat→List jM→List dx→List (List Nat)→(Ev→List Tok→Prop)→Prop) (fun _ ents labs rds K=>gL.good ⟨rds,labs.map (fun x=>⟨x.prod,x.cons⟩),anc⟩ ops.toArray nt=true∧GK ents base fun env=>zA labs fun rs=>K env rs) (fun o _ ih i ents labs rds K=>match nth anc i with
  |none=>False
  |some A=>Gh anc i olds base fun base'=>F3 A ents base' fun env=>
  match sZ ops env A o.guard,o.dst with
  | .no,_=>False
  | .free,none=>jL i (qd env none o.op.operands.toList labs) labs fun labs1 rs=>oZ ti env rs none o.op fun rs'=>(bif gu dl i A (dU rs' [])then lq i labs1 rs' fun labs2=>fJ rds [] fun rds'=>ih (i+1) ents labs2 rds' K else False)
  | .at _ _ _,none=>False
  | .free,some d=>bif !Nat.blt d nt then False else match kind o.op with
   | .pure=>GA (bif KN o.op then qd env none o.op.operands.toList labs else[]) labs 0 fun rd rs=>wT P ti env rs none none o.op fun v=>bif jU v&&gu dl i A (v.names [])then fJ rds rd fun rds'=>ih (i+1) (⟨i,d,v⟩::ents) labs rds' K else False
   | .st=>jL i (qd env none o.op.operands.toList labs) labs fun labs1 rs=>bif bU d env rs then uV P ti env rs none d o.op fun v rs'=>(bif jU v&&gu dl i A (v.names (dU rs' []))then lq i labs1 rs' fun labs2=>fJ rds [] fun rds'=>ih (i+1) (⟨i,d,v⟩::ents) labs2 rds' K else False)else False
   | .call=>(ow (qd env none o.op.operands.toList labs) [] fun ns0=>match ns0 with
    |[]=>wT P ti env [] none none o.op fun v=>bif jU v&&gu dl i A (v.names [])then fJ rds [] fun rds'=>ih (i+1) (⟨i,d,v⟩::ents) labs rds' K else False
    |_::_=>nE labs 4 ns0 fun ns=>GA ns labs 0 fun rd rs=>bif bU d env rs then uV P ti env rs none d o.op fun v rs'=>∃new,rs'=rs++new∧(bif jU v&&gu dl i A (v.names (dU new []))then lq i labs new fun labs2=>fJ rds rd fun rds'=>ih (i+1) (⟨i,d,v⟩::ents) labs2 rds' K else False)else False)∨
    (ow (qd env none o.op.operands.toList labs) [] fun ns0=>nE labs 4 ns0 fun ns=>jL i ns labs fun labs1 rs=>bif bU d env rs then uV P ti env rs none d o.op fun v rs'=>(bif jU v&&gu dl i A (v.names (dU rs' []))then lq i labs1 rs' fun labs2=>fJ rds [] fun rds'=>ih (i+1) (⟨i,d,v⟩::ents) labs2 rds' K else False)else False)
  | .at gd gb gc,some d=>bif Nat.beq gd d|| !Nat.blt d nt then False else match kind o.op with
   | .st=>(gc=true→jL i (qd env (some (gd,gb)) o.op.operands.toList labs) labs fun labs1 rs=>bif bU d env rs then uV P ti env rs (some (gd,gb)) d o.op fun v rs'=>(bif jU v&&gu dl i A (v.names (dU rs' []))then lq i labs1 rs' fun labs2=>fJ rds [] fun rds'=>ih (i+1) (⟨i,d,v⟩::ents) labs2 rds' K else False)else False)∧(gc=false→fJ rds [] fun rds'=>ih (i+1) (⟨i,d,.un⟩::ents) labs rds' K)
   | .pure=>GA (bif KN o.op then qd env (some (gd,gb)) o.op.operands.toList labs else[]) labs 0 fun rd rs=>wT P ti env rs (some (gd,gb)) (some gc) o.op fun v=>bif jU v&&gu dl i A (v.names [])then fJ rds rd fun rds'=>ih (i+1) (⟨i,d,.gd gd gb v⟩::ents) labs rds' K else False
   | .call=>(wT P ti env [] (some (gd,gb)) (some gc) o.op fun v=>bif jU v&&gu dl i A (v.names [])then fJ rds [] fun rds'=>ih (i+1) (⟨i,d,.gd gd gb v⟩::ents) labs rds' K else False)∨
    ((gc=true→ow (qd env (some (gd,gb)) o.op.operands.toList labs) [] fun ns0=>nE labs 4 ns0 fun ns=>jL i ns labs fun labs1 rs=>bif bU d env rs then uV P ti env rs (some (gd,gb)) d o.op fun v rs'=>(bif jU v&&gu dl i A (v.names (dU rs' []))then lq i labs1 rs' fun labs2=>fJ rds [] fun rds'=>ih (i+1) (⟨i,d,v⟩::ents) labs2 rds' K else False)else False)∧(gc=false→∃v,bif jU v&&gu dl i A (v.names [])then fJ rds [] fun rds'=>ih (i+1) (⟨i,d,.gd gd gb v⟩::ents) labs rds' K else False))) l i
theorem KS{P:Program}{ti:TI}{nt:Nat}{ops:List Oper}{dl:List (Nat×Nat)}{base:Ev}{olds:List jM}{anc:List (List Nat)}{i:Nat}{ents:List jM}{labs:List dx}{rds:List (List Nat)}{K:Ev→List Tok→Prop}:xQ P ti nt ops dl base olds anc i [] ents labs rds K=(gL.good ⟨rds,labs.map (fun x=>⟨x.prod,x.cons⟩),anc⟩ ops.toArray nt=true∧GK ents base fun env=>zA labs fun rs=>K env rs):=rfl
theorem Jp{P:Program}{ti:TI}{nt:Nat}{ops:List Oper}{dl:List (Nat×Nat)}{base:Ev}{olds:List jM}{anc:List (List Nat)}{i:Nat}{o:Oper}{rest:List Oper}{ents:List jM}{labs:List dx}{rds:List (List Nat)}{K:Ev→List Tok→Prop}:xQ P ti nt ops dl base olds anc i (o::rest) ents labs rds K=(match nth anc i with
  |none=>False
  |some A=>Gh anc i olds base fun base'=>F3 A ents base' fun env=>
  match sZ ops env A o.guard,o.dst with
  | .no,_=>False
  | .free,none=>jL i (qd env none o.op.operands.toList labs) labs fun labs1 rs=>oZ ti env rs none o.op fun rs'=>(bif gu dl i A (dU rs' [])then lq i labs1 rs' fun labs2=>fJ rds [] fun rds'=>xQ P ti nt ops dl base olds anc (i+1) rest ents labs2 rds' K else False)
  | .at _ _ _,none=>False
  | .free,some d=>bif !Nat.blt d nt then False else match kind o.op with
   | .pure=>GA (bif KN o.op then qd env none o.op.operands.toList labs else[]) labs 0 fun rd rs=>wT P ti env rs none none o.op fun v=>bif jU v&&gu dl i A (v.names [])then fJ rds rd fun rds'=>xQ P ti nt ops dl base olds anc (i+1) rest (⟨i,d,v⟩::ents) labs rds' K else False
   | .st=>jL i (qd env none o.op.operands.toList labs) labs fun labs1 rs=>bif bU d env rs then uV P ti env rs none d o.op fun v rs'=>(bif jU v&&gu dl i A (v.names (dU rs' []))then lq i labs1 rs' fun labs2=>fJ rds [] fun rds'=>xQ P ti nt ops dl base olds anc (i+1) rest (⟨i,d,v⟩::ents) labs2 rds' K else False)else False
   | .call=>(ow (qd env none o.op.operands.toList labs) [] fun ns0=>match ns0 with
    |[]=>wT P ti env [] none none o.op fun v=>bif jU v&&gu dl i A (v.names [])then fJ rds [] fun rds'=>xQ P ti nt ops dl base olds anc (i+1) rest (⟨i,d,v⟩::ents) labs rds' K else False
    |_::_=>nE labs 4 ns0 fun ns=>GA ns labs 0 fun rd rs=>bif bU d env rs then uV P ti env rs none d o.op fun v rs'=>∃new,rs'=rs++new∧(bif jU v&&gu dl i A (v.names (dU new []))then lq i labs new fun labs2=>fJ rds rd fun rds'=>xQ P ti nt ops dl base olds anc (i+1) rest (⟨i,d,v⟩::ents) labs2 rds' K else False)else False)∨
    (ow (qd env none o.op.operands.toList labs) [] fun ns0=>nE labs 4 ns0 fun ns=>jL i ns labs fun labs1 rs=>bif bU d env rs then uV P ti env rs none d o.op fun v rs'=>(bif jU v&&gu dl i A (v.names (dU rs' []))then lq i labs1 rs' fun labs2=>fJ rds [] fun rds'=>xQ P ti nt ops dl base olds anc (i+1) rest (⟨i,d,v⟩::ents) labs2 rds' K else False)else False)
  | .at gd gb gc,some d=>bif Nat.beq gd d|| !Nat.blt d nt then False else match kind o.op with
   | .st=>(gc=true→jL i (qd env (some (gd,gb)) o.op.operands.toList labs) labs fun labs1 rs=>bif bU d env rs then uV P ti env rs (some (gd,gb)) d o.op fun v rs'=>(bif jU v&&gu dl i A (v.names (dU rs' []))then lq i labs1 rs' fun labs2=>fJ rds [] fun rds'=>xQ P ti nt ops dl base olds anc (i+1) rest (⟨i,d,v⟩::ents) labs2 rds' K else False)else False)∧(gc=false→fJ rds [] fun rds'=>xQ P ti nt ops dl base olds anc (i+1) rest (⟨i,d,.un⟩::ents) labs rds' K)
   | .pure=>GA (bif KN o.op then qd env (some (gd,gb)) o.op.operands.toList labs else[]) labs 0 fun rd rs=>wT P ti env rs (some (gd,gb)) (some gc) o.op fun v=>bif jU v&&gu dl i A (v.names [])then fJ rds rd fun rds'=>xQ P ti nt ops dl base olds anc (i+1) rest (⟨i,d,.gd gd gb v⟩::ents) labs rds' K else False
   | .call=>(wT P ti env [] (some (gd,gb)) (some gc) o.op fun v=>bif jU v&&gu dl i A (v.names [])then fJ rds [] fun rds'=>xQ P ti nt ops dl base olds anc (i+1) rest (⟨i,d,.gd gd gb v⟩::ents) labs rds' K else False)∨
    ((gc=true→ow (qd env (some (gd,gb)) o.op.operands.toList labs) [] fun ns0=>nE labs 4 ns0 fun ns=>jL i ns labs fun labs1 rs=>bif bU d env rs then uV P ti env rs (some (gd,gb)) d o.op fun v rs'=>(bif jU v&&gu dl i A (v.names (dU rs' []))then lq i labs1 rs' fun labs2=>fJ rds [] fun rds'=>xQ P ti nt ops dl base olds anc (i+1) rest (⟨i,d,v⟩::ents) labs2 rds' K else False)else False)∧(gc=false→∃v,bif jU v&&gu dl i A (v.names [])then fJ rds [] fun rds'=>xQ P ti nt ops dl base olds anc (i+1) rest (⟨i,d,.gd gd gb v⟩::ents) labs rds' K else False))):=rfl
def KT(P:Program)(ti:TI)(nt:Nat)(ops:List Oper)(env:Ev)(rs:List Tok)(K:Ev→List Tok→Prop):Prop:=
 yS (qy ops 0) [] env fun base olds=>GQ ops [] fun anc=>Ed rs fun labs=>bif BD (qy ops 0) (kX base (mH olds (mD labs [])))then xQ P ti nt ops (qy ops 0) base olds anc 0 ops [] labs [] K else False
def rC:List Nat→Ev→(Ev→Prop)→Prop
 |_,[],K=>K []
 |dl,(t,v)::l,K=>match v with
  | .gd _ _ _=>rC (t::dl) l K
  |v=>bif mem t dl then rC dl l K else rC dl l fun l'=>K ((t,v)::l')
def oD:List Oper→Bool
 |[]=>false
 |o::l=>match o.guard with|some _=>true|none=>oD l
def yZ(env:Ev):Ev→Prop
 |[]=>True
 |(t,v)::l=>match lk env t with
  |some u=>Ee u v∧yZ env l
  |none=>False
def iY:List Oper→List Nat→List Nat
 |[],r=>r
 |o::l,r=>match o.dst with|some d=>d::iY l r|none=>iY l r
def wr:Code→List Nat→List Nat
 | .seq a b,r=>wr a (wr b r)
 | .cond _ a b,r=>wr a (wr b r)
 | .block _ a,r=>wr a r
 | .region _ ops _,r=>iY ops.toList r
 | .loop a,r=>wr a r
 |_,r=>r
def wP:List Nat→List Nat→Bool
 |[],_=>false
 |t::l,m=>bif mem (t % 1000000) m||Nat.ble 20000 (t % 1000000)then true else wP l m
def wH:List Nat→Ev→(Ev→Prop)→Prop
 |_,[],K=>K []
 |wl,(t,v)::l,K=>bif mem t wl then wH wl l K else bif wP (v.names []) wl then wH (t::wl) l K else wH wl l fun l'=>K ((t,v)::l')
def JM:Ev→Ev→(Ev→Prop)→Prop
 |[],e,K=>K e
 |(t,v)::l,e,K=>JM l e fun l'=>K ((t,v)::l')
structure Lp where
 σ:Type
 U:σ→Ev
 T:σ→List Tok
 μ:σ→Nat
 I:σ→Prop
 s0:σ
 G:σ→(List Tok→Prop)→Prop
 ok:∀(s:σ) (K:List Tok→Prop) (cx:Cx) (β:Nat→Value) (w:World) (R:List dK),G s K→Inv cx.w0 cx.F0 w ((T s).map (Tok.res cx β)++R)→∃rs',K rs'∧Inv cx.w0 cx.F0 w (rs'.map (Tok.res cx β)++R)
def yY:List (Nat×Nat)→Bool
 |[]=>true
 |(g,_)::l=>Nat.ble 20000 g&&Nat.blt g 1000000&&yY l
structure yc where
 t:Nat
 g:Nat
 e:TypeId
 s:Nat
 u:U
def uI(m:yc):Tok:=bif Nat.ble 500000 m.g then .dat m.g m.e m.s m.u []else .row m.g m.e m.s m.u [] []
def rR(g:Nat):Nat→List SV→Option (List SV)
 |0,.raw (.slice none 0 0)::l=>some (.sl g::l)
 |i+1,c::l=>match rR g i l with|some r=>some (c::r)|none=>none
 |_,_=>none
def oN:List yc→Ev→List Tok→(Ev→List Tok→Prop)→Prop
 |[],env,rs,K=>K env rs
 |m::l,env,rs,K=>match(Nat.ble 20000 m.g&&Nat.blt m.g 1000000)&&bU m.g env rs&&Nat.beq m.u.size m.s with
  |true=>match Nat.blt m.t 1000000 with
   |true=>match lk env m.t with
    |some (.raw (.slice none 0 0))=>oN l ((m.t,.sl m.g)::env) (uI m::rs) K
    |_=>False
   |false=>pX rs (m.t % 1000000) fun t cs rest=>match rR m.g (m.t/1000000-1) cs with
    |some cs'=>oN l env (uI m:: .bY (m.t % 1000000) t cs'::rest) K
    |none=>False
  |false=>False
def kG(env:Ev)(rs:List Tok)(U:Ev)(T:List Tok):Prop:=∃(σ:List (Nat×Nat)) (M:List yc),yY σ=true∧oN M env rs fun env rs=>(D8 false σ U fun U'=>yZ env U')∧kH false σ T fun T'=>gJ rs T'
def vc(P:Program)(ti:TI)(nt:Nat)(c:Code):Ev→List Tok→(X→Ev→List Tok→Prop)→Prop:=
 Code.rec (motive:=fun _=>Ev→List Tok→(X→Ev→List Tok→Prop)→Prop)
  (fun env rs K=>K .n env rs)
  (fun _ ops draw env rs K=>match draw with
   |false=>gQ P ti nt ops.toList [] ops.toList env rs fun env' rs'=>bif oD ops.toList then rC [] env' (fun env''=>K .n env'' rs')else K .n env' rs'
   |true=>KT P ti nt ops.toList env rs fun env' rs'=>bif oD ops.toList then rC [] env' (fun env''=>K .n env'' rs')else K .n env' rs')
  (fun _ _ ih_a ih_b env rs K=>ih_a env rs fun e env' rs'=>match e with| .n=>ih_b env' rs' K|e=>K e env' rs')
  (fun c _ _ ih_a ih_b env rs K=>match evs env none c with
  |some (.bool t)=>(t=true→ih_a env rs K)∧(t=false→ih_b env rs K)
  |_=>False)
  (fun id _ ih_a env rs K=>ih_a env rs fun e env' rs'=>match e with
  | .x id'=>bif Nat.beq id' id then K .n env' rs' else K (.x id') env' rs'
  |e=>K e env' rs')
  (fun body ih_body env rs K=>∃L:Lp,(L.I L.s0∧kG env rs (L.U L.s0) (L.T L.s0))∧∀s,L.I s→wH (wr body []) env fun kept=>JM (L.U s) kept fun env1=>L.G s fun rsG=>ih_body env1 rsG fun e env' rs'=>match e with
  | .n=>∃s',(L.I s'∧kG env' rs' (L.U s') (L.T s'))∧L.μ s'<L.μ s
  |e=>K e env' rs')
  (fun _ _ _ _ _ _ _ _ _=>False)
  (fun id env rs K=>K (.x id) env rs)
  (fun _ _ _ _ _=>False)
  (fun _ _ _ _=>False)
  (fun _ _ _ _=>False)
  (fun env rs K=>K .r env rs)
  (fun _ _ _ _=>False) c
section
variable {P:Program}{ti:TI}{nt:Nat}{env:Ev}{rs:List Tok}{K:X→Ev→List Tok→Prop}
theorem MZ{a b:Code}:vc P ti nt (.seq a b) env rs K=(vc P ti nt a env rs fun e env' rs'=>match e with| .n=>vc P ti nt b env' rs' K|e=>K e env' rs'):=rfl
theorem KV{c:Operand}{a b:Code}:vc P ti nt (.cond c a b) env rs K=(match evs env none c with
  |some (.bool t)=>(t=true→vc P ti nt a env rs K)∧(t=false→vc P ti nt b env rs K)
  |_=>False):=rfl
theorem Jr{id:Nat}{a:Code}:vc P ti nt (.block id a) env rs K=(vc P ti nt a env rs fun e env' rs'=>match e with
  | .x id'=>bif Nat.beq id' id then K .n env' rs' else K (.x id') env' rs'
  |e=>K e env' rs'):=rfl
theorem MX{id:Nat}{ops:Array Oper}:vc P ti nt (.region id ops false) env rs K=(gQ P ti nt ops.toList [] ops.toList env rs fun env' rs'=>bif oD ops.toList then rC [] env' (fun env''=>K .n env'' rs')else K .n env' rs'):=rfl
theorem KW{id:Nat}{ops:Array Oper}:vc P ti nt (.region id ops true) env rs K=(KT P ti nt ops.toList env rs fun env' rs'=>bif oD ops.toList then rC [] env' (fun env''=>K .n env'' rs')else K .n env' rs'):=rfl
theorem KX{body:Code}:vc P ti nt (.loop body) env rs K=(∃L:Lp,(L.I L.s0∧kG env rs (L.U L.s0) (L.T L.s0))∧∀s,L.I s→wH (wr body []) env fun kept=>JM (L.U s) kept fun env1=>L.G s fun rsG=>vc P ti nt body env1 rsG fun e env' rs'=>match e with
  | .n=>∃s',(L.I s'∧kG env' rs' (L.U s') (L.T s'))∧L.μ s'<L.μ s
  |e=>K e env' rs'):=rfl
end
def wV(ti:TI)(env:Ev)(rs:List Tok):List ResultVar→Option (List SV)
 |[]=>some []
 | .tmp t::l=>match lk env t,wV ti env rs l with|some v,some r=>some (v::r)|_,_=>none
 | .cell t ty::l=>match lk env t with
  |some (.ptr g 0)=>match jl rs g,lk ti ty with
   |some cs,some (.st _ n _ _)=>bif Nat.beq cs.length n then(match wV ti env rs l with|some r=>some (.agg cs::r)|none=>none)else none
   |some [v],some _=>match wV ti env rs l with|some r=>some (v::r)|none=>none
   |_,_=>none
  |_=>none
def yH(ti:TI)(env:Ev)(rs:List Tok)(rv:List ResultVar)(r:SV):Prop:=match wV ti env rs rv with
 |some [v]=>Ee v r
 |some l=>Ee (.tup l) r
 |none=>False
def uo:List SV→Nat→Ev→Ev
 |[],_,e=>e
 |v::l,i,e=>uo l (i+1) ((i,v)::e)
def vcF(P:Program)(ti:TI)(nt:Nat)(c:Code)(rv:List ResultVar)(args:List SV)(r:SV):Prop:=
 vc P ti nt c (uo args 0 []) [] fun e env rs=>match e with| .x _=>False|_=>yH ti env rs rv r
def Ao:Nat→Nat→List (Nat×Nat)
 |0,_=>[]
 |n+1,i=>(i,i)::Ao n (i+1)
def ng:List (Nat×Nat)→List (Nat×Nat)→List (Nat×Nat)
 |[],e=>e
 |x::l,e=>x::ng l e
def PY(P:Program)(ti:TI)(nt:Nat)(c:Code)(rv:List ResultVar)(args:List SV)(ts:List Tok)(r:SV)(ts':List Tok):Prop:=
 vc P ti nt c (uo args 0 []) ts fun e env rs=>match e with
  | .x _=>False
  |_=>∃(σ:List (Nat×Nat)) (M:List yc),oN M env rs fun env rs=>I9 true (ng (Ao ts.length 10000) σ) r (fun r'=>yH ti env rs rv r')∧kH true (ng (Ao ts.length 10000) σ) ts' fun ts''=>gJ rs ts''
end Go.Tr
namespace Go.Tr
open Go Go.RowKit
universe u
theorem aU{a b:Nat}(h:Nat.beq a b=true):a=b:=Nat.eq_of_beq_eq_true h
theorem iF{e:U}(x:Tree (El e)):enc (.tree e) x=enc e x.val++[.sl x.kids.length (List.flatMap (enc (.tree e)) x.kids)]:=by
 cases x with
 |node x l=>
  show FX (enc e) (.node x l)=enc e x++[.sl l.length (List.flatMap (FX (enc e)) l)];unfold FX;rw[BM]
theorem aT:∀(u:U) (x:El u),(enc u x).length=u.size
 | .tree e,x=>by rw[iF];simp[U.size,aT e x.val]
 | .int _,_| .bool,_| .str,_| .any,_| .sl _,_=>rfl
 | .pair a b,x=>by simp[enc,U.size,aT a x.1,aT b x.2]
theorem gY:∀(u:U) (x:El u),(dS u x).length=u.size
 | .tree e,x=>by simp[dS,U.size,gY e x.val]
 | .int _,_| .bool,_| .str,_| .any,_| .sl _,_=>rfl
 | .pair a b,x=>by simp[dS,U.size,gY a x.1,gY b x.2]
theorem U.size_pos:∀u:U,0<u.size
 | .int _| .bool| .str| .any| .sl _=>Nat.one_pos
 | .pair a b=>by simp only[U.size];have:=U.size_pos a;omega
 | .tree a=>by simp only[U.size];omega
section
variable {cx:Cx}{β:Nat→Value}
theorem au.app:∀{l m:List SV} {us vs:List Value},au cx β l us→au cx β m vs→au cx β (l++m) (us++vs)
 |[],m,us,vs,h,k=>by unfold au at h;subst h;exact k
 |s::l,m,us,vs,h,k=>by
  unfold au at h;obtain⟨v,vs',rfl,h1,h2⟩:=h;show au cx β (s::(l++m)) (v::(vs'++vs));unfold au;exact⟨v,_,rfl,h1,h2.app k⟩
theorem au.one{s:SV}{v:Value}(h:Den cx β s v):au cx β [s] [v]:=by unfold au;exact⟨v,[],rfl,h,by unfold au;rfl⟩
theorem au.len:∀{l:List SV} {us:List Value},au cx β l us→us.length=l.length
 |[],us,h=>by unfold au at h;subst h;rfl
 |s::l,us,h=>by
  unfold au at h;obtain⟨v,vs',rfl,h1,h2⟩:=h;simp[h2.len]
theorem au.get:∀{l:List SV} {us:List Value} {i:Nat} {s:SV},au cx β l us→nth l i=some s→∃v,us[i]? =some v∧Den cx β s v
 |[],us,i,s,h,hs=>by unfold nth at hs;cases hs
 |x::l,us,0,s,h,hs=>by
  unfold au at h;obtain⟨v,vs',rfl,h1,h2⟩:=h;unfold nth at hs;injection hs with hs
  subst hs;exact⟨v,rfl,h1⟩
 |x::l,us,i+1,s,h,hs=>by
  unfold au at h;obtain⟨v,vs',rfl,h1,h2⟩:=h;unfold nth at hs;simpa using h2.get hs
theorem kD.append{w0:World}{F0:List Nat}{d1 d2:List D}{us:List Value}(h:kD w0 F0 (d1++d2) us):∃u1 u2,us=u1++u2∧kD w0 F0 d1 u1∧kD w0 F0 d2 u2:=by
 obtain⟨bs,h1,h2⟩:=h;obtain⟨b1,b2,u1,u2,rfl,rfl,h6,h7⟩:=TN.append.1 h1;exact⟨u1,u2,rfl,⟨b1,h6,fun y hy=>h2 y (by simp[hy])⟩,⟨b2,h7,fun y hy=>h2 y (by simp[hy])⟩⟩
theorem kD.v1{w0:World}{F0:List Nat}{x:Value}{us:List Value}(h:kD w0 F0 [.v x] us):us=[x]∧x.oneCell'=true:=by
 obtain⟨bs,h1,_⟩:=h;obtain⟨b1,b2,u,us',rfl,rfl,h2,h3⟩:=TN.cons.1 h1;obtain⟨rfl,_,h4⟩:=T1.v.1 h2;obtain⟨rfl,_⟩:=TN.nil.1 h3;exact⟨rfl,h4⟩
theorem jF:∀(u:U) (x:El u) {us:List Value},kD cx.w0 cx.F0 (enc u x) us→au cx β (dS u x) us
 | .int k,x,us,h=>by obtain⟨rfl,_⟩:=h.v1;exact au.one (by unfold Den;rfl)
 | .bool,x,us,h=>by obtain⟨rfl,_⟩:=h.v1;exact au.one (by unfold Den;rfl)
 | .str,x,us,h=>by obtain⟨rfl,h1⟩:=h.v1;exact au.one (by unfold Den;exact⟨rfl,h1⟩)
 | .any,x,us,h=>by obtain⟨rfl,h1⟩:=h.v1;exact au.one (by unfold Den;exact⟨rfl,h1⟩)
 | .pair a b,x,us,h=>by
  obtain⟨u1,u2,rfl,h1,h2⟩:=kD.append h;exact(jF a x.1 h1).app (jF b x.2 h2)
 | .sl e,xs,us,h=>by
  obtain⟨A,c,us',rfl,h1,_,h2⟩:=kD.sl h;have:=h2.end_;subst this;exact au.one (by unfold Den;exact h1)
 | .tree e,x,us,h=>by
  rw[iF]at h;obtain⟨u1,u2,rfl,h1,h2⟩:=kD.append h;obtain⟨A,c,us',rfl,h3,_,h4⟩:=kD.sl h2;have:=h4.end_;subst this;exact(jF e x.val h1).app (au.one (by unfold Den;exact h3))
def B0:SV→Prop
 | .int _ _=>True
 | .bool _=>True
 | .raw _=>True
 | .rsl _ _=>True
 |_=>False
theorem vJ:∀(u:U) (x:El u),∀s∈dS u x,B0 s
 | .int _,x,s,h| .bool,x,s,h| .str,x,s,h| .any,x,s,h| .sl _,x,s,h=>by
  simp only[dS,List.mem_singleton]at h;subst h;trivial
 | .pair a b,x,s,h=>by
  simp only[dS,List.mem_append]at h;exact h.elim (vJ a x.1 s) (vJ b x.2 s)
 | .tree e,x,s,h=>by
  simp only[dS,List.mem_append,List.mem_singleton]at h;rcases h with h|h
  ·exact vJ e x.val s h
  ·subst h;trivial
theorem au.b0{β':Nat→Value}:∀{l:List SV} {us:List Value},(∀s∈l,B0 s)→au cx β l us→au cx β' l us
 |[],us,_,h=>by unfold au at h ⊢;exact h
 |s::l,us,hb,h=>by
  unfold au at h ⊢;obtain⟨v,vs,e,h1,h2⟩:=h;refine⟨v,vs,e,?_,au.b0 (fun s hs=>hb s (List.mem_cons_of_mem _ hs)) h2⟩;have:=hb s (List.mem_cons_self ..);cases s<;>first|exact this.elim|(unfold Den at h1 ⊢;exact h1)
theorem au.BX{β':Nat→Value}{u:U}{xs:List (El u)}{us:List Value}(h:au cx β (List.flatMap (dS u) xs) us):au cx β' (List.flatMap (dS u) xs) us:=h.b0 fun s hs=>by
 obtain⟨x,_,h1⟩:=List.mem_flatMap.1 hs;exact vJ u x s h1
theorem nY.slice{w0:World}{F0:List Nat}{n:Nat}{ds:List D}{v:Value}(h:nY w0 F0 (.sl n ds) v):∃A c,v=.slice A n c:=by
 obtain⟨bs,h1,_⟩:=h;obtain⟨A,c,h2,_⟩:=h1.slice;exact⟨A,c,h2⟩
def iN(cx:Cx)(β:Nat→Value)(a:Act):SV→Value→Prop
 | .gd d b x,v=>(a.tmps[d]? =some (.bool b)→Den cx β x v)∧(a.tmps[d]? ≠some (.bool b)→v=undef)
 |s,v=>Den cx β s v
theorem iN.of{a:Act}{s:SV}{v:Value}(h:Den cx β s v):iN cx β a s v:=by
 cases s<;>first|exact h|(unfold Den at h;exact h.elim)
structure iB(cx:Cx)(β:Nat→Value)(n:Nat)(a:Act)(env:Ev):Prop where
 size:a.tmps.size=n
 defers:a.defers=[]
 get:∀t s,lk env t=some s→∃v,a.tmps[t]? =some v∧iN cx β a s v
def jq(a:Act)(g:Option (Nat×Bool)):Prop:=∀d b,g=some (d,b)→a.tmps[d]? =some (.bool b)
theorem aJ{n:Nat}{a:Act}{env:Ev}(E:iB cx β n a env){g:Option (Nat×Bool)}(hg:jq a g){x:Operand}{s:SV}(h:evs env g x=some s):∃v,a.eval x=v∧Den cx β s v:=by
 cases x with
 |tmp t=>
  unfold evs at h;simp only at h;cases hl:lk env t with
  |none=>rw[hl]at h;simp at h
  |some u=>
   obtain⟨v,hv,hd⟩:=E.get t u hl
   have ha:a.eval (.tmp t)=v:=by
    show a.tmps.getD t undef=v;rw[Array.getD_eq_getD_getElem?,hv];rfl
   refine⟨v,ha,?_⟩;rw[hl]at h;cases u
   case gd d b x=>
    simp only at h;cases g with
    |none=>simp at h
    |some p=>
     obtain⟨d',b'⟩:=p;simp only at h;cases hb:(Nat.beq d d'&&(b==b'))with
     |false=>rw[hb]at h;simp at h
     |true=>
      rw[hb]at h;simp only[cond_true,Option.some.injEq]at h;subst h;rw[Bool.and_eq_true,beq_iff_eq]at hb;obtain⟨h1,rfl⟩:=hb;have:=aU h1;subst this;exact hd.1 (hg _ _ rfl)
   all_goals
    simp only[Option.some.injEq]at h;subst h;exact hd
 |const v=>
  refine⟨v,rfl,?_⟩;unfold evs at h;simp only at h;split at h<;>first|(simp only[Option.some.injEq]at h;subst h;unfold Den;first|rfl|exact⟨rfl,rfl⟩)|(simp at h)
 |func f=>
  refine⟨_,rfl,?_⟩;unfold evs at h;simp only[Option.some.injEq]at h;subst h;unfold Den;exact⟨[],rfl,by unfold au;rfl⟩
 |global i=>simp[evs]at h
theorem EM{n:Nat}{a:Act}{env:Ev}(E:iB cx β n a env){g g':Option (Nat×Bool)}(hg:jq a g)(hg':jq a g'){x:Operand}{s:SV}(h:Ki env g g' x=some s):∃v,a.eval x=v∧Den cx β s v:=by
 unfold Ki at h;cases e:evs env g' x with
 |some v=>rw[e]at h;injection h with h;subst h;exact aJ E hg' e
 |none=>rw[e]at h;exact aJ E hg h
theorem Kj{n:Nat}{a:Act}{env:Ev}(E:iB cx β n a env){g:Option (Nat×Bool)}(hg:jq a g){c:Nat}{s:SV}(h:evs env g (.tmp c)=some s):∃v,a.tmps[c]? =some v∧Den cx β s v:=by
 obtain⟨v,hv,hd⟩:=aJ E hg h;cases hl:lk env c with
 |none=>unfold evs at h;simp[hl]at h
 |some s'=>
  obtain⟨v0,hv0,_⟩:=E.get c s' hl;refine⟨v,?_,hd⟩
  have:a.eval (.tmp c)=v0:=by
   show a.tmps.getD c undef=_;rw[Array.getD_eq_getD_getElem?,hv0];rfl
  rw[←hv,this];exact hv0
theorem vE{n:Nat}{a:Act}{env:Ev}(E:iB cx β n a env){g:Option (Nat×Bool)}(hg:jq a g):∀{xs:List Operand} {ss:List SV},zZ env g xs=some ss→au cx β ss (xs.map a.eval)
 |[],ss,h=>by
  unfold zZ at h;simp only[Option.some.injEq]at h;subst h;unfold au;rfl
 |x::xs,ss,h=>by
  unfold zZ at h;cases h1:evs env g x with
  |none=>rw[h1]at h;simp at h
  |some s=>
   cases h2:zZ env g xs with
   |none=>rw[h1,h2]at h;simp at h
   |some r=>
    rw[h1,h2]at h;simp only[Option.some.injEq]at h;subst h;obtain⟨v,h3,h4⟩:=aJ E hg h1;unfold au;exact⟨v,_,by rw[List.map_cons,h3],h4,vE E hg h2⟩
theorem FR{rs:List Tok}{g:Nat}{cs:List SV}(h:jl rs g=some cs):∃(i:Nat) (t:TypeId),rs[i]? =some (Tok.bY g t cs):=by
 induction rs with
 |nil=>simp[jl]at h
 |cons x rs ih=>
  cases x with
  |bY g' t cs'=>
   unfold jl at h;cases hb:Nat.beq g' g with
   |true=>
    rw[hb]at h;simp only[cond_true,Option.some.injEq]at h;subst h;have:=aU hb;subst this;exact⟨0,t,rfl⟩
   |false=>
    rw[hb]at h;obtain⟨i,t,h1⟩:=ih h;exact⟨i+1,t,by simpa using h1⟩
  |row g' t s u xs us=>
   unfold jl at h;obtain⟨i,t,h1⟩:=ih h;exact⟨i+1,t,by simpa using h1⟩
  |map g' u kv=>
   unfold jl at h;obtain⟨i,t,h1⟩:=ih h;exact⟨i+1,t,by simpa using h1⟩
  |nest g' u xs us=>
   unfold jl at h;obtain⟨i,t,h1⟩:=ih h;exact⟨i+1,t,by simpa using h1⟩
  |dat g' t s u xs=>
   unfold jl at h;obtain⟨i,t,h1⟩:=ih h;exact⟨i+1,t,by simpa using h1⟩
theorem tX{rs:List Tok}{g:Nat}{r:Dn}(h:rowOf rs g=some r):∃(i:Nat),rs[i]? =some (Tok.row g r.t r.s r.u r.xs r.us):=by
 induction rs with
 |nil=>simp[rowOf]at h
 |cons x rs ih=>
  cases x with
  |row g' t s u xs us=>
   unfold rowOf at h;cases hb:Nat.beq g' g with
   |true=>
    rw[hb]at h;simp only[cond_true,Option.some.injEq]at h;subst h;have:=aU hb;subst this;exact⟨0,rfl⟩
   |false=>
    rw[hb]at h;obtain⟨i,h1⟩:=ih h;exact⟨i+1,by simpa using h1⟩
  |bY g' t cs=>
   unfold rowOf at h;obtain⟨i,h1⟩:=ih h;exact⟨i+1,by simpa using h1⟩
  |map g' u kv=>
   unfold rowOf at h;obtain⟨i,h1⟩:=ih h;exact⟨i+1,by simpa using h1⟩
  |nest g' u xs us=>
   unfold rowOf at h;obtain⟨i,h1⟩:=ih h;exact⟨i+1,by simpa using h1⟩
  |dat g' t s u xs=>
   unfold rowOf at h;obtain⟨i,h1⟩:=ih h;exact⟨i+1,by simpa using h1⟩
theorem sS{rs:List Tok}{g:Nat}{r:Jz}(h:iV rs g=some r):∃(i:Nat),rs[i]? =some (Tok.dat g r.t r.s r.u r.xs):=by
 induction rs with
 |nil=>simp[iV]at h
 |cons x rs ih=>
  cases x with
  |dat g' t s u xs=>
   unfold iV at h;cases hb:Nat.beq g' g with
   |true=>
    rw[hb]at h;simp only[cond_true,Option.some.injEq]at h;subst h;have:=aU hb;subst this;exact⟨0,rfl⟩
   |false=>
    rw[hb]at h;obtain⟨i,h1⟩:=ih h;exact⟨i+1,by simpa using h1⟩
  |row g' t s u xs us=>
   unfold iV at h;obtain⟨i,h1⟩:=ih h;exact⟨i+1,by simpa using h1⟩
  |bY g' t cs=>
   unfold iV at h;obtain⟨i,h1⟩:=ih h;exact⟨i+1,by simpa using h1⟩
  |map g' u kv=>
   unfold iV at h;obtain⟨i,h1⟩:=ih h;exact⟨i+1,by simpa using h1⟩
  |nest g' u xs us=>
   unfold iV at h;obtain⟨i,h1⟩:=ih h;exact⟨i+1,by simpa using h1⟩
theorem Gc{rs:List Tok}{g:Nat}{r:Ls}(h:mapOf rs g=some r):∃(i:Nat),rs[i]? =some (Tok.map g r.u r.kv):=by
 induction rs with
 |nil=>simp[mapOf]at h
 |cons x rs ih=>
  cases x with
  |map g' u kv=>
   unfold mapOf at h;cases hb:Nat.beq g' g with
   |true=>
    rw[hb]at h;simp only[cond_true,Option.some.injEq]at h;subst h;have:=aU hb;subst this;exact⟨0,rfl⟩
   |false=>
    rw[hb]at h;obtain⟨i,h1⟩:=ih h;exact⟨i+1,by simpa using h1⟩
  |bY g' t cs=>
   unfold mapOf at h;obtain⟨i,h1⟩:=ih h;exact⟨i+1,by simpa using h1⟩
  |nest g' u xs us=>
   unfold mapOf at h;obtain⟨i,h1⟩:=ih h;exact⟨i+1,by simpa using h1⟩
  |dat g' t s u xs=>
   unfold mapOf at h;obtain⟨i,h1⟩:=ih h;exact⟨i+1,by simpa using h1⟩
  |row g' t s u xs us=>
   unfold mapOf at h;obtain⟨i,h1⟩:=ih h;exact⟨i+1,by simpa using h1⟩
theorem fq(u:U)(xs:List (El u)):(xs.flatMap (enc u)).length=xs.length*u.size:=oJ (enc u) u.size (aT u) xs
theorem zB{w:World}{rs:List Tok}{fr:List dK}(H:Inv cx.w0 cx.F0 w (rs.map (Tok.res cx β)++fr)){g:Nat}{r:Dn}(h:rowOf rs g=some r):
  r.u.size=r.s∧∃A c bs,β g=.slice A (List.length (α:=El r.u) r.xs) c∧T1 w (.sl (List.length (α:=El r.u) r.xs) (List.flatMap (enc r.u) r.xs)) bs (β g)∧(0<List.length (α:=El r.u) r.xs→∃b,A=some ⟨b,0,none⟩):=by
 obtain⟨i,hi⟩:=tX h
 obtain⟨F,h1,h2⟩:=H.mem i (r:=Tok.res cx β (.row g r.t r.s r.u r.xs r.us)) (by
  rw[List.getElem?_append_left (by simpa using(List.getElem?_eq_some_iff.1 hi).1),List.getElem?_map,hi];rfl)
 refine⟨h1,?_⟩;obtain⟨bs,us,_,hg,_⟩:=h2;obtain⟨A,c,bs',e,ht,_⟩:=hg.res (by rw[fq,h1]);refine⟨A,c,bs',e,e▸ht,fun hp=> ?_⟩;rcases hg.row.2 with⟨e1,e2⟩|⟨b,cap,cur,e1,_⟩
 ·omega
 ·rw[e]at e1;injection e1 with e1
  exact⟨b,e1⟩
theorem He{w:World}{rs:List Tok}{fr:List dK}(H:Inv cx.w0 cx.F0 w (rs.map (Tok.res cx β)++fr)){g:Nat}{r:Jz}(h:iV rs g=some r):
  r.u.size=r.s∧∃A c,β g=.slice A (List.length (α:=El r.u) r.xs) c:=by
 obtain⟨i,hi⟩:=sS h
 obtain⟨F,h1,us,h2,h3,h4⟩:=H.mem i (r:=Tok.res cx β (.dat g r.t r.s r.u r.xs)) (by
  rw[List.getElem?_append_left (by simpa using(List.getElem?_eq_some_iff.1 hi).1),List.getElem?_map,hi];rfl)
 refine⟨h1,?_⟩;obtain⟨bs,us',_,hg,_⟩:=h4;rcases hg.row.2 with⟨e1,e2⟩|⟨b,cap,cur,e1,_⟩
 ·exact⟨_,_,by rw[e1,e2]⟩
 ·exact⟨_,_,e1⟩
theorem MN{w:World}{rs:List Tok}{fr:List dK}(H:Inv cx.w0 cx.F0 w (rs.map (Tok.res cx β)++fr)){g:Nat}{r:Dn}(h:rowOf rs g=some r)(hp:0<List.length (α:=El r.u) r.xs):
  ∃b c,β g=.slice (some ⟨b,0,none⟩) (List.length (α:=El r.u) r.xs) c∧List.length (α:=El r.u) r.xs≤c:=by
 obtain⟨i,hi⟩:=tX h
 obtain⟨F,h1,h2⟩:=H.mem i (r:=Tok.res cx β (.row g r.t r.s r.u r.xs r.us)) (by
  rw[List.getElem?_append_left (by simpa using(List.getElem?_eq_some_iff.1 hi).1),List.getElem?_map,hi];rfl)
 obtain⟨bs,us,_,hg,_⟩:=h2;rcases hg.row.2 with⟨e1,e2⟩|⟨b,cap,cur,e1,_,_,e3,_⟩
 ·omega
 ·exact⟨b,cap,e1,e3⟩
theorem Jd{w:World}{rs:List Tok}{fr:List dK}(H:Inv cx.w0 cx.F0 w (rs.map (Tok.res cx β)++fr)){g:Nat}{r:Dn}(h:rowOf rs g=some r){b m c:Nat}(hb:β g=.slice (some ⟨b,0,none⟩) m c){j:Nat}{v:Value}(hv:r.us[j]? =some v):w.cell? ⟨b,j,none⟩=some v:=by
 obtain⟨i,hi⟩:=tX h
 obtain⟨F,h1,h2⟩:=H.mem i (r:=Tok.res cx β (.row g r.t r.s r.u r.xs r.us)) (by
  rw[List.getElem?_append_left (by simpa using(List.getElem?_eq_some_iff.1 hi).1),List.getElem?_map,hi];rfl)
 obtain⟨bs,us,_,hg,q,hq⟩:=h2
 have hu:us[j]? =some v:=by
  rw[←hq,List.getElem?_append_left (List.getElem?_eq_some_iff.1 hv).1];exact hv
 rcases hg.row.2 with⟨e1,e2⟩|⟨b',cap,cur,e1,_,e2,_,_,_,e3⟩
 ·rw[hb]at e1;cases e1
 ·rw[hb]at e1;injection e1 with e1
  injection e1 with e1
  injection e1 with e1
  subst e1;rw[cell_of_row w b j cur r.t (0,0) e2,←Array.getElem?_toList];rw[←e3,List.getElem?_take]at hu;split at hu
  ·exact hu
  ·cases hu
theorem zQ{w:World}{rs:List Tok}{fr:List dK}(H:Inv cx.w0 cx.F0 w (rs.map (Tok.res cx β)++fr)){g:Nat}{cs:List SV}(h:jl rs g=some cs):
  ∃b us t,β g=.pointer (some ⟨b,0,none⟩)∧au cx β cs us∧us.all (·.oneCell')=true∧w.heap[b]? =some (.cells us.toArray t (0,0)):=by
 obtain⟨i,t,hi⟩:=FR h
 obtain⟨F,b,us,h1,h2,h3,h4⟩:=H.mem i (r:=Tok.res cx β (.bY g t cs)) (by
  rw[List.getElem?_append_left (by simpa using(List.getElem?_eq_some_iff.1 hi).1),List.getElem?_map,hi];rfl)
 exact⟨b,us,t,h1,h2,h3,h4.2⟩
theorem tK{α:Type u}:∀{l:List α} {i:Nat},nth l i=l[i]?
 |[],i=>by simp[nth]
 |x::l,0=>by simp[nth]
 |x::l,i+1=>by simp[nth,tK (l:=l)]
theorem kW{α:Type u}:∀{n:Nat} {l:List α},jI n l=l.drop n
 |0,l=>by cases l<;>simp[jI]
 |n+1,[]=>by simp[jI]
 |n+1,x::l=>by simp[jI,kW (n:=n)]
theorem o8{α:Type u}:∀{n:Nat} {l r:List α},takeN n l=some r→l.take n=r∧r.length=n
 |0,l,r,h=>by cases l<;>simp[takeN]at h<;>subst h<;>simp
 |n+1,[],r,h=>by simp[takeN]at h
 |n+1,x::l,r,h=>by
  unfold takeN at h;cases h1:takeN n l with
  |none=>rw[h1]at h;simp at h
  |some q=>
   rw[h1]at h;simp only[Option.some.injEq]at h;subst h;obtain⟨h2,h3⟩:=o8 h1;simp[h2,h3]
theorem au.drop:∀{l:List SV} {us:List Value} (k:Nat),au cx β l us→au cx β (l.drop k) (us.drop k)
 |l,us,0,h=>by simpa using h
 |[],us,k+1,h=>by unfold au at h;subst h;simp;unfold au;rfl
 |s::l,us,k+1,h=>by
  unfold au at h;obtain⟨v,vs',rfl,h1,h2⟩:=h;simpa using h2.drop k
theorem au.take:∀{l:List SV} {us:List Value} (k:Nat),au cx β l us→au cx β (l.take k) (us.take k)
 |l,us,0,h=>by simp;unfold au;rfl
 |[],us,k+1,h=>by unfold au at h;subst h;simp;unfold au;rfl
 |s::l,us,k+1,h=>by
  unfold au at h;obtain⟨v,vs',rfl,h1,h2⟩:=h;simp only[List.take_succ_cons];unfold au;exact⟨v,_,rfl,h1,h2.take k⟩
variable {P:Program}{ti:TI}
theorem tC{α:Type u}:∀{l:List (Nat×α)} {t:Nat} {x:α},lk l t=some x→(t,x)∈l
 |[],t,x,h=>by simp[lk]at h
 |(k,v)::l,t,x,h=>by
  unfold lk at h;cases hb:Nat.beq t k with
  |true=>
   rw[hb]at h;simp only[cond_true,Option.some.injEq]at h;have:=aU hb;subst this h;simp
  |false=>
   rw[hb]at h;exact List.mem_cons_of_mem _ (tC h)
theorem qj(h:gM P ti=true){t:Nat}{x:ou}(hl:lk ti t=some x):nV P t x=true:=by
 unfold gM at h;rw[List.all_eq_true]at h;exact h _ (tC hl)
theorem nX(h:gM P ti=true){t m n:Nat}{u:U}{zs:List SV}(hl:lk ti t=some (.st m n u zs)):
  qo P t=some true∧(P.info? t).map (·.size)=some n∧u.size=n∧∀i,i<m→Ae P t i=some (jQ i m u):=by
 have:=qj h hl;unfold nV at this;rw[Bool.and_eq_true]at this;have:=this.2;simp only[Bool.and_eq_true,beq_iff_eq,List.all_eq_true,List.mem_range]at this;exact⟨this.1.1.1.1,this.1.1.1.2,aU this.1.1.2,this.1.2⟩
theorem Oo(h:gM P ti=true){t m n:Nat}{u:U}{zs:List SV}(hl:lk ti t=some (.st m n u zs)):placesOf P t=some ((List.range m).map fun i=>(jQ i m u,Dw i m u)):=by
 have:=qj h hl;unfold nV at this;rw[Bool.and_eq_true]at this;have:=this.2;simp only[Bool.and_eq_true,beq_iff_eq]at this;exact this.2
theorem kI(h:gM P ti=true){t e s:Nat}{u:U}(hl:lk ti t=some (.sl e s u)):qo P t=some false∧jA P t=some (e,s)∧u.size=s:=by
 have:=qj h hl;unfold nV at this;rw[Bool.and_eq_true]at this;have:=this.2;simp only[Bool.and_eq_true,beq_iff_eq]at this;exact⟨this.1.1.1.1,this.1.1.1.2,aU this.1.1.2⟩
theorem mU(h:gM P ti=true){t e s:Nat}{u:U}(hl:lk ti t=some (.sl e s u)):mY P t e s:=by
 have:=qj h hl;unfold nV at this;rw[Bool.and_eq_true]at this;have:=this.2;simp only[Bool.and_eq_true,beq_iff_eq]at this;refine mY.of ?_ this.2 (by simpa using this.1.2);have h2:=(kI h hl).2.1;unfold jA at h2;split at h2
 ·rename_i e' hu;cases hi:P.info? e' with
  |none=>rw[hi]at h2;simp at h2
  |some i=>
   rw[hi]at h2;simp at h2;rw[hu,h2.1]
 ·cases h2
theorem xI(h:gM P ti=true){t:Nat}{x:ou}(hl:lk ti t=some x)(hx:∀m n u z,x≠.st m n u z):qo P t=some false:=by
 have:=qj h hl;unfold nV at this;rw[Bool.and_eq_true]at this;have this:=this.2;cases x with
 |sc z=>simp only[Bool.and_eq_true,beq_iff_eq]at this;exact this.1
 |ptr z=>simpa using this
 |bool=>simp only[Bool.and_eq_true,beq_iff_eq]at this;exact this.1
 |sl e s u=>exact(kI h hl).1
 |mp u=>simp only[Bool.and_eq_true,beq_iff_eq]at this;exact this.1.1
 |st m n u z=>exact absurd rfl (hx m n u z)
theorem Jo{u:U}(h:u1 u=true)(x:El u):∃s:SV,(match dS u x with|[v]=>some v|[v,v2]=>some (.agg [v,v2])|_=>none)=some s∧Den cx β s (sH u x):=by
 cases u with
 |int k=>exact⟨_,rfl,by unfold Den sH;rfl⟩
 |bool=>exact⟨_,rfl,by unfold Den sH;rfl⟩
 |pair a b=>
  cases a<;>cases b<;>simp only[u1]at h<;>first|cases h|skip
  refine⟨_,rfl,?_⟩;unfold Den sH;exact⟨[_,_],rfl,by unfold au;exact⟨_,_,rfl,by unfold Den;rfl,au.one (by unfold Den;rfl)⟩⟩
 |str=>cases h
 |any=>cases h
 |sl e=>cases h
 |tree e=>cases h
theorem Dj{a b:Value}(h:FK a b=true):a=b:=by
 unfold FK at h;split at h
 ·rw[Bool.and_eq_true,beq_iff_eq,beq_iff_eq]at h;rw[h.1,h.2]
 ·rw[beq_iff_eq]at h;rw[h]
 ·rw[beq_iff_eq]at h;rename_i a b;cases a;cases b;simp only at h;rw[h]
 all_goals first|rfl|cases h
theorem kS:∀{a b:List Value},lI a b=true→a=b
 |[],[],_=>rfl
 |a::l,b::m,h=>by
  unfold lI at h;rw[Bool.and_eq_true]at h;rw[Dj h.1,kS h.2]
 |[],_::_,h=>by cases h
 |_::_,[],h=>by cases h
theorem Gw{a b:Value}(h:Er a b=true):a=b:=by
 unfold Er at h;split at h
 ·rename_i a b;have:=kS h;cases a;cases b;simp only at this;rw[this]
 ·exact Dj h
theorem C9(h:gM P ti=true){t:Nat}{u:U}(hl:lk ti t=some (.mp u)):u1 u=true∧∃k e,P.underlying t=some (.map k e)∧P.underlying k=some (.int .i64)∧∃i,P.info? e=some i∧i.zero=some (sH u (dflt u)):=by
 have:=qj h hl;unfold nV at this;rw[Bool.and_eq_true]at this;have:=this.2;simp only[Bool.and_eq_true,beq_iff_eq]at this;refine⟨this.1.2,?_⟩;have h2:=this.2;split at h2
 ·rename_i k e hu;simp only[Bool.and_eq_true]at h2;refine⟨k,e,hu,?_,?_⟩
  ·have h3:=h2.1;split at h3
   ·assumption
   ·cases h3
  ·have h3:=h2.2;split at h3
   ·rename_i z hz;cases hi:P.info? e with
    |none=>rw[hi]at hz;simp at hz
    |some i=>
     rw[hi]at hz;simp only[Option.bind_some]at hz;exact⟨i,rfl,by rw[hz,Gw h3]⟩
   ·cases h3
 ·cases h2
theorem EI{s:SV}(h:tY s=true):Den cx β s (qx s)∧(qx s).oneCell'=true:=by
 unfold tY at h;split at h
 ·unfold Den qx;exact⟨rfl,rfl⟩
 ·unfold Den qx;exact⟨rfl,rfl⟩
 ·unfold Den qx;exact⟨⟨rfl,h⟩,h⟩
 ·cases h
theorem vW:∀{l:List SV},l.all tY=true→au cx β l (l.map qx)∧(l.map qx).all (·.oneCell')=true
 |[],_=>by unfold au;exact⟨rfl,rfl⟩
 |s::l,h=>by
  rw[List.all_cons,Bool.and_eq_true]at h;obtain⟨h1,h2⟩:=EI (cx:=cx) (β:=β) h.1;obtain⟨h3,h4⟩:=vW h.2;unfold au;exact⟨⟨_,_,rfl,h1,h3⟩,by rw[List.map_cons,List.all_cons,h2,h4];rfl⟩
theorem Ei(h:gM P ti=true){t:Nat}{k:IntKind}{i:Int}(hl:lk ti t=some (.sc (.int k i))):P.underlying t=some (.int k):=by
 have:=qj h hl;unfold nV at this;rw[Bool.and_eq_true]at this;have:=this.2;simp only[Bool.and_eq_true,beq_iff_eq]at this;have h2:=this.2;split at h2
 ·rename_i k' hu;rw[hu,eq_of_beq h2]
 ·cases h2
theorem MP(h:gM P ti=true){t:Nat}{z:SV}(hl:lk ti t=some (.sc z)):(P.underlying t).isSome=true:=by
 have:=xI h hl (by intro m n u z h;cases h);unfold qo at this;cases hu:P.underlying t with
 |none=>rw[hu]at this;cases this
 |some x=>rfl
theorem pY(h:gM P ti=true){t:Nat}{x:ou}(hl:lk ti t=some x):(lJ x).all tY=true∧(P.info? t).map (·.size)=some (lJ x).length∧zeroOf P t=some ((lJ x).map qx):=by
 have:=qj h hl;unfold nV at this;rw[Bool.and_eq_true,Bool.and_eq_true,Bool.and_eq_true,beq_iff_eq]at this;refine⟨this.1.1.1,this.1.2,?_⟩;have h2:=this.1.1.2;split at h2
 ·rename_i zs hz;rw[hz,kS h2]
 ·cases h2
theorem F5{i m:Nat}{e:U}{x:Tree (El e)}:rF i (m+2) (.tree e) x=(bif Nat.beq i (m+1)then some ⟨.sl (.tree e),Tree.kids x⟩else rF i (m+1) e (Tree.val x)):=by
 cases i<;>rfl
theorem y7{i m:Nat}{e:U}:jQ i (m+2) (.tree e)=(bif Nat.beq i (m+1)then e.size else jQ i (m+1) e):=by
 cases i<;>rfl
theorem Af:∀(i m:Nat) (u:U) (x:El u) {u':U} {x':El u'},rF i m u x=some ⟨u',x'⟩→i<m∧∃d1 d2,enc u x=d1++(enc u' x'++d2)∧d1.length=jQ i m u
 |0,1,u,x,u',x',h=>by
  unfold rF at h;injection h with h
  injection h with h1 h2
  subst h1;cases h2;exact⟨by omega,[],[],by simp,by unfold jQ;rfl⟩
 |0,m+2,.pair a b,x,u',x',h=>by
  unfold rF at h;injection h with h
  injection h with h1 h2
  subst h1;cases h2;exact⟨by omega,[],enc b x.2,by simp[enc],by unfold jQ;rfl⟩
 |i+1,m+2,.pair a b,x,u',x',h=>by
  unfold rF at h;obtain⟨h1,d1,d2,h2,h3⟩:=Af i (m+1) b x.2 h;refine⟨by omega,enc a x.1++d1,d2,by simp[enc,h2],?_⟩;unfold jQ;simp[aT,h3]
 |0,0,u,x,u',x',h=>by unfold rF at h;simp at h
 |i+1,0,u,x,u',x',h=>by unfold rF at h;simp at h
 |i+1,1,u,x,u',x',h=>by unfold rF at h;simp at h
 |i,m+2,.tree e,x,u',x',h=>by
  rw[F5]at h;cases hb:Nat.beq i (m+1)with
  |true=>
   rw[hb]at h;simp only[cond_true,Option.some.injEq]at h;injection h with h1 h2
   subst h1;cases h2;have:=aU hb;subst this;refine⟨by omega,enc e x.val,[],by rw[iF,List.append_nil];rfl,?_⟩;rw[y7,hb,aT];rfl
  |false=>
   rw[hb]at h;obtain⟨h1,d1,d2,h2,h3⟩:=Af i (m+1) e x.val h;refine⟨by omega,d1,d2++[.sl x.kids.length (List.flatMap (enc (.tree e)) x.kids)],by rw[iF,h2];simp,?_⟩;rw[y7,hb];exact h3
 |0,m+2,.int _,x,u',x',h|0,m+2,.bool,x,u',x',h|0,m+2,.str,x,u',x',h|0,m+2,.any,x,u',x',h|0,m+2,.sl _,x,u',x',h=>by simp[rF]at h
 |i+1,m+2,.int _,x,u',x',h|i+1,m+2,.bool,x,u',x',h|i+1,m+2,.str,x,u',x',h|i+1,m+2,.any,x,u',x',h|i+1,m+2,.sl _,x,u',x',h=>by simp[rF]at h
theorem ER{α:Type}{γ:Type}{f:α→List γ}{n:Nat}(hn:∀x,(f x).length=n):∀(l:List α) (i:Nat) (h:i<l.length),((l.flatMap f).drop (i*n)).take n=f l[i]
 |[],i,h=>by simp at h
 |x::l,0,h=>by
  simp only[List.flatMap_cons,Nat.zero_mul,List.drop_zero,List.getElem_cons_zero];rw[List.take_append_of_le_length (by rw[hn];exact Nat.le_refl _),List.take_of_length_le (by rw[hn];exact Nat.le_refl _)]
 |x::l,i+1,h=>by
  simp only[List.flatMap_cons,List.getElem_cons_succ];rw[List.drop_append,List.drop_eq_nil_of_le (by rw[hn,Nat.add_mul];omega),List.nil_append,hn,show(i+1)*n-n=i*n by rw[Nat.add_mul];omega];exact ER hn l i (by simpa using h)
theorem BH{w:World}{rs:List Tok}{fr:List dK}(H:Inv cx.w0 cx.F0 w (rs.map (Tok.res cx β)++fr)){g:Nat}{r:Jz}(h:iV rs g=some r){i:Int}(hi:i.toNat<List.length (α:=El r.u) r.xs):
  r.u.size=r.s∧∃b c us,β g=.slice (some ⟨b,0,none⟩) (List.length (α:=El r.u) r.xs) c∧Go.Tr.bZ w b (i.toNat*r.s) us∧au cx β (dS r.u (elt (dflt r.u) r.xs i)) us:=by
 obtain⟨i0,hi0⟩:=sS h
 obtain⟨F,h1,us0,h2,h3,h4⟩:=H.mem i0 (r:=Tok.res cx β (.dat g r.t r.s r.u r.xs)) (by
  rw[List.getElem?_append_left (by simpa using(List.getElem?_eq_some_iff.1 hi0).1),List.getElem?_map,hi0];rfl)
 refine⟨h1,?_⟩;obtain⟨bs,us',_,hg,_⟩:=h4
 have hus:us'=us0:=by
  have:∀{us us':List Value} {bs:List Nat},TN w (us.map D.v) bs us'→us'=us:=by
   intro us
   induction us with
   |nil=>intro us' bs h;exact(TN.nil.1 h).1
   |cons u us ih=>
    intro us' bs h;rw[List.map_cons]at h;obtain⟨b1,b2,v,us2,rfl,rfl,k2,k3⟩:=TN.cons.1 h;obtain⟨rfl,_,_⟩:=T1.v.1 k2;rw[ih k3]
  exact this hg.tn
 subst hus;rcases hg.row.2 with⟨e1,e2⟩|⟨b,cap,cur,e1,_,e2,_,_,_,e3⟩
 ·omega
 ·refine⟨b,cap,(us'.drop (i.toNat*r.s)).take r.s,e1,fun j v hv=> ?_,?_⟩
  ·rw[List.getElem?_take]at hv;split at hv
   ·rw[List.getElem?_drop]at hv;rw[cell_of_row w b _ cur r.t (0,0) e2,←Array.getElem?_toList];rw[←e3,List.getElem?_take]at hv;split at hv
    ·exact hv
    ·cases hv
   ·cases hv
  ·have h5:=(h2.drop (i.toNat*r.s)).take r.s;rw[ER (fun x=>(gY r.u x).trans h1) _ _ hi]at h5;have:r.xs[i.toNat]=elt (dflt r.u) r.xs i:=by unfold elt;rw[List.getD_eq_getElem?_getD,List.getElem?_eq_getElem hi];rfl
   rw[this]at h5;exact h5
theorem foldl_set:∀(us:List Value) (k off:Nat) (cells:Array Value),off+k+us.length≤cells.size→((us.zipIdx k).foldl (fun(cs:Array Value) (x:Value×Nat)=>cs.setIfInBounds (off+x.2) x.1) cells).toList=cells.toList.take (off+k)++us++cells.toList.drop (off+k+us.length)
 |[],k,off,cells,h=>by simp
 |v::us,k,off,cells,h=>by
  simp only[List.length_cons]at h;rw[List.zipIdx_cons,List.foldl_cons,foldl_set us (k+1) off _ (by simp;omega)];apply List.ext_getElem?;intro j;simp only[Array.toList_setIfInBounds,List.getElem?_append,List.getElem?_take,List.length_append,List.length_take,List.length_set,List.length_cons,List.getElem?_set,List.getElem?_drop,Array.length_toList]
  grind
end
end Go.Tr
namespace Go.Tr
open Go Go.RowKit
universe u
def yP:R→SV→Prop
 | .no,_=>False
 | .ok v,u=>v=u
 | .vc p v,u=>p∧v=u
 | .ex f,u=>∃k:Nat,yP (f k) u
theorem yP.ok{v u:SV}(h:yP (.ok v) u):v=u:=h
theorem yP.vc{p:Prop}{v u:SV}(h:yP (.vc p v) u):p∧v=u:=h
theorem yP.no{u:SV}(h:yP .no u):False:=h
theorem yP.ex{f:Nat→R}{u:SV}(h:yP (.ex f) u):∃k:Nat,yP (f k) u:=h
section
variable {cx:Cx}{β:Nat→Value}{P:Program}{ti:TI}{n:Nat}{a:Act}{env:Ev}{rs:List Tok}{fr:List dK}{w:World}{g:Option (Nat×Bool)}
 {dst:Option Nat} {ty:TypeId} {pos:String} {aft:Array Edge} {gd:Option (Nat×Bool)} {v:SV}
theorem dH{k:IntKind}{i:Int}{x:Value}(h:Den cx β (.int k i) x):x=.int k i:=by unfold Den at h;exact h
theorem iE{b:Bool}{x:Value}(h:Den cx β (.bool b) x):x=.bool b:=by unfold Den at h;exact h
theorem lN{o:BinOp}{t:TypeId}{k:IntKind}{i j:Int}(h:(match o with| .shl=>false| .shr=>false|_=>true)=true):(binOp o t (.int k i) (.int k j))=(match o with
  | .add| .sub| .mul=>Op.intArith o k i j
  | .quo| .rem=>Op.intDiv o k i j
  | .and| .or| .xor| .andNot=>Op.intBits o k i j
  |_=>Op.intCmp o i j):=by
 cases o<;>first|(cases h;done)|(unfold binOp;simp)
theorem ME{x y:Operand}{o:BinOp}{t u:TypeId}{k k':IntKind}{i j:Int}{z:Value}(hx:a.eval x=.int k i)(hy:a.eval y=.int k' j)(hr:(binOp o t (.int k i) (.int k' j)).run P w=.ok z w):
  (execOp a.eval ⟨dst,.binOp o t x y u,ty,pos,aft,gd⟩).run P w=.ok (.value z) w:=by
 have he:(eqGuard o t x y (.int k i) (.int k' j)).run P w=.ok () w:=by
  unfold eqGuard;split<;>rfl
 simp[execOp,hx,hy,he,hr]
theorem JO{o:BinOp}{t:TypeId}{k k':IntKind}{i j:Int}{v:SV}(h:yP (LK o k k' i j) v):∃z,(binOp o t (.int k i) (.int k' j)).run P w=.ok z w∧∀(cx:Cx) (β:Nat→Value),Den cx β v z:=by
 unfold LK at h;split at h
 ·obtain⟨h1,rfl⟩:=h.vc;refine⟨_,?_,fun cx β=>by unfold Den;rfl⟩;simp[binOp,Op.shift,Int.not_lt.2 h1]
 ·obtain⟨h1,rfl⟩:=h.vc;refine⟨_,?_,fun cx β=>by unfold Den;rfl⟩;simp[binOp,Op.shift,Int.not_lt.2 h1]
 ·rename_i o n1 n2;cases hk:(k==k')with
  |false=>rw[hk]at h;exact h.no.elim
  |true=>
   rw[hk]at h;have hk:=eq_of_beq hk;subst hk;simp only[cond_true]at h;split at h
   ·have:=h.ok;subst this;exact⟨_,by rw[lN rfl];rfl,fun cx β=>by unfold Den;rfl⟩
   ·have:=h.ok;subst this;exact⟨_,by rw[lN rfl];rfl,fun cx β=>by unfold Den;rfl⟩
   ·have:=h.ok;subst this;exact⟨_,by rw[lN rfl];rfl,fun cx β=>by unfold Den;rfl⟩
   ·obtain⟨h1,rfl⟩:=h.vc;exact⟨_,by rw[lN rfl];simp only[Op.intDiv,if_neg h1];rfl,fun cx β=>by unfold Den;rfl⟩
   ·obtain⟨h1,rfl⟩:=h.vc;exact⟨_,by rw[lN rfl];simp only[Op.intDiv,if_neg h1];rfl,fun cx β=>by unfold Den;rfl⟩
   ·have:=h.ok;subst this;exact⟨_,by rw[lN rfl];rfl,fun cx β=>by unfold Den;rfl⟩
   ·have:=h.ok;subst this;exact⟨_,by rw[lN rfl];rfl,fun cx β=>by unfold Den;rfl⟩
   ·have:=h.ok;subst this;exact⟨_,by rw[lN rfl];rfl,fun cx β=>by unfold Den;rfl⟩
   ·have:=h.ok;subst this;exact⟨_,by rw[lN rfl];rfl,fun cx β=>by unfold Den;rfl⟩
   ·have:=h.ok;subst this;exact⟨_,by rw[lN rfl];rfl,fun cx β=>by unfold Den;rfl⟩
   ·have:=h.ok;subst this;exact⟨_,by rw[lN rfl];rfl,fun cx β=>by unfold Den;rfl⟩
   ·have:=h.ok;subst this;exact⟨_,by rw[lN rfl];rfl,fun cx β=>by unfold Den;rfl⟩
   ·have:=h.ok;subst this;exact⟨_,by rw[lN rfl];rfl,fun cx β=>by unfold Den;rfl⟩
   ·have:=h.ok;subst this;exact⟨_,by rw[lN rfl];rfl,fun cx β=>by unfold Den;rfl⟩
   ·exact h.no.elim
theorem LM{o:BinOp}{x y:Operand}{t u:TypeId}{s1 s2:SV}{v1 v2:Value}(h1:a.eval x=v1)(d1:Den cx β s1 v1)(h2:a.eval y=v2)(d2:Den cx β s2 v2)(h:yP (LJ o s1 s2) v):
  ∃val,(execOp a.eval ⟨dst,.binOp o t x y u,ty,pos,aft,gd⟩).run P w=.ok (.value val) w∧Den cx β v val:=by
 have key:∀{i j:Int} {z:Value} {s:SV},s1=.int .i64 i→s2=.int .i64 j→(∀w:World,(binOp o t (.int .i64 i) (.int .i64 j)).run P w=.ok z w)→Den cx β s z→s=v→
   ∃val,(execOp a.eval ⟨dst,.binOp o t x y u,ty,pos,aft,gd⟩).run P w=.ok (.value val) w∧Den cx β v val:=by
  intro i j z s e1 e2 hr hd e;subst e1 e2 e;rw[dH d1]at h1;rw[dH d2]at h2;exact⟨z,NT h1 h2 (hr w),hd⟩
 unfold LJ at h;split at h
 ·exact key rfl rfl (fun w=>Nc rfl) (by unfold Den;rfl) h.ok
 ·exact key rfl rfl (fun w=>Nq rfl) (by unfold Den;rfl) h.ok
 ·exact key rfl rfl (fun w=>Nk rfl) (by unfold Den;rfl) h.ok
 ·exact key rfl rfl (fun w=>Nn h.vc.1 rfl) (by unfold Den;rfl) h.vc.2
 ·exact key rfl rfl (fun w=>Np h.vc.1 rfl) (by unfold Den;rfl) h.vc.2
 ·exact key rfl rfl (fun w=>Nj rfl) (by unfold Den;rfl) h.ok
 ·exact key rfl rfl (fun w=>Ni rfl) (by unfold Den;rfl) h.ok
 ·exact key rfl rfl (fun w=>Nh rfl) (by unfold Den;rfl) h.ok
 ·exact key rfl rfl (fun w=>Ng rfl) (by unfold Den;rfl) h.ok
 ·exact key rfl rfl (fun w=>Nf rfl) (by unfold Den;rfl) h.ok
 ·exact key rfl rfl (fun w=>Nl rfl) (by unfold Den;rfl) h.ok
 ·obtain⟨z,h3,h4⟩:=JO (P:=P) (w:=w) (t:=t) h;rw[dH d1]at h1;rw[dH d2]at h2;exact⟨z,ME h1 h2 h3,h4 cx β⟩
 ·exact h.no.elim
theorem Jb{b o:Nat}{u:U}{x:El u}(h:zJ cx.w0 cx.F0 b o (enc u x))(H:Inv cx.w0 cx.F0 w fr):∃us,Go.Tr.bZ w b o us∧au cx β (dS u x) us∧us.length=u.size:=by
 obtain⟨h1,h2,us,h3,h4⟩:=h;have:=jF (cx:=cx) (β:=β) u x h4;exact⟨us,h3.keep (H.lK.other b h1 h2),this,by rw[this.len,gY]⟩
theorem au.solid{cx':Cx}{β':Nat→Value}:∀{l:List SV} {us:List Value},au cx β l us→jk l=true→au cx' β' l us
 |[],us,h,_=>by unfold au at h ⊢;exact h
 |s::l,us,h,hs=>by
  unfold au at h ⊢;obtain⟨v,vs',h1,h2,h3⟩:=h;cases s<;>unfold jk at hs<;>first|exact⟨v,vs',h1,(by unfold Den at h2 ⊢;exact h2),h3.solid hs⟩|cases hs
theorem nY.Gq{w0:World}{F0:List Nat}{n:Nat}{ds:List D}{v:Value}(h:nY w0 F0 (.sl n ds) v):∃A c,(0<n→∃b o,A=some ⟨b,o,none⟩)∧v=.slice A n c:=by
 obtain⟨bs,h1,_⟩:=h;unfold T1 at h1;obtain⟨A,c,he,_,_,h1⟩:=h1;refine⟨A,c,fun hp=> ?_,he⟩;rcases h1 with⟨h0,_⟩|⟨_,b,off,us,bs',hA,_⟩
 ·omega
 ·exact⟨b,off,hA⟩
theorem DU{us:List Value}{k:Int}{s:Nat}:∀{l:List SV} {vs:List Value} {o:Nat},au ⟨w,[]⟩ β l vs→nT l=true→(∀j v,vs[j]? =some v→us.getD (k.toNat*s+(o+j)) undef=v)→au cx β (Jw us k s o l) vs
 |[],vs,o,h,_,_=>by unfold au at h;subst h;unfold Jw au;rfl
 |c::l,vs,o,h,hn,hg=>by
  unfold au at h;obtain⟨v,vs',rfl,h1,h2⟩:=h
  have ih:nT l=true→au cx β (Jw us k s (o+1) l) vs':=fun hn=>DU h2 hn fun j v hv=>by
   have:=hg (j+1) v (by simpa using hv);rw[show o+1+j=o+(j+1) by omega];exact this
  cases c<;>unfold nT at hn<;>first|cases hn|skip
  case rsl e ys=>
   unfold Jw au;refine⟨v,vs',rfl,?_,ih hn⟩;have h0:=hg 0 v rfl;rw[Nat.add_zero]at h0;unfold Den at h1 ⊢;obtain⟨A,c,hpos,rfl⟩:=h1.Gq;rw[h0];exact⟨rfl,A,c,rfl,hpos⟩
  all_goals
   unfold Jw au;exact⟨v,vs',rfl,by unfold Den at h1 ⊢;exact h1,ih hn⟩
theorem Ht(H:Inv cx.w0 cx.F0 w (rs.map (Tok.res cx β)++fr)){q:Nat}{r:Dn}(hr:rowOf rs q=some r){b m c i s o:Nat}(hb:β q=.slice (some ⟨b,0,none⟩) m c){us:List Value}(hca:Go.Tr.bZ w b (i*s+0) us)(hus:us.length=s)(hle:i*s+s≤r.us.length){n:Nat}:
  ∀j v,((us.drop o).take n)[j]? =some v→r.us.getD (i*s+(o+j)) undef=v:=fun j v hv=>by
 rw[List.getElem?_take]at hv;split at hv
 ·rw[List.getElem?_drop]at hv;have hlt:=(List.getElem?_eq_some_iff.1 hv).1;have h1:=hca (o+j) v hv;rw[Nat.add_zero]at h1;have h2:r.us[i*s+(o+j)]? =some (r.us[i*s+(o+j)]'(by omega)):=List.getElem?_eq_getElem (by omega);have h3:=Jd H hr hb h2;rw[h1]at h3;rw[List.getD_eq_getElem?_getD,h2];injection h3 with h3
  exact h3.symm
 ·cases hv
theorem EZ(H:Inv cx.w0 cx.F0 w (rs.map (Tok.res cx β)++fr)){q:Nat}{r:Dn}(hr:rowOf rs q=some r){k:Int}{o:Nat}{hdr:Value}(hk:Cu r.xs r.us k r.s o hdr){e:U}{ys:List (El e)}(hn:Az r.u (elt (dflt r.u) r.xs k) o=some ⟨.sl e,ys⟩):
  nY w [] (.sl ys.length (ys.flatMap (enc e))) hdr:=by
 obtain⟨t',s,u,xs,us0⟩:=r;obtain⟨h0,h1,h2⟩:=hk;simp only at h0 h1 h2 hn;obtain⟨e1,A,c',bs,e2,e3,e4⟩:=zB H hr;simp only at e1 e2 e3 e4;have him:k.toNat<xs.length:=by omega
 obtain⟨b,rfl⟩:=e4 (by omega);rw[e2]at e3;obtain⟨_,b',off,b1,b2,b3,us,hA,_,hb',hc,ht⟩:=T1.at_ (aT u) e3 rfl him;injection hA with hA
 injection hA with hA1 hA2
 subst hA1 hA2;have hx':xs[k.toNat]'him=elt (dflt u) xs k:=by unfold elt;rw[List.getD_eq_getElem?_getD,List.getElem?_eq_getElem him];rfl
 rw[hx']at ht;have hds:=jF (cx:=⟨w,[]⟩) (β:=β) u _ (kD.of ht);unfold Az at hn;split at hn
 ·rename_i e' ys' hnth;injection hn with hn
  injection hn with q1 q2
  injection q1 with q1
  subst q1;cases q2;obtain⟨v,k1,k2⟩:=hds.get hnth;have hcell:=hc o v k1;rw[Nat.zero_add,e1]at hcell;have h3:=Jd H hr e2 h2;rw[h3]at hcell;injection hcell with hcell
  subst hcell;unfold Den at k2;exact k2
 ·cases hn
theorem Iw{e:U}{ys:List (El e)}{hdr:Value}(h:nY w [] (.sl ys.length (ys.flatMap (enc e))) hdr){n:Nat}{b o c:Nat}(hh:hdr=.slice (some ⟨b,o,none⟩) n c){i:Int}(h0:0≤i)(h1:i<(n:Nat)):
  ∃us,Go.Tr.bZ w b (o+i.toNat*e.size) us∧au ⟨w,[]⟩ β (dS e (elt (dflt e) ys i)) us∧us.length=e.size:=by
 subst hh
 have hm:n=ys.length:=by
  obtain⟨bs,ht,_⟩:=h;obtain⟨A',c',h2,_⟩:=ht.slice;injection h2
 subst hm;obtain⟨b',off,x,h2,h3,h4⟩:=h.elem (aT e) rfl (k:=i.toNat) (by omega);injection h2 with h2
 injection h2 with h2 h5
 subst h2 h5;have:elt (dflt e) ys i=x:=by unfold elt;rw[List.getD_eq_getElem?_getD,h3];rfl
 rw[this];obtain⟨k1,k2,us,k3,k4⟩:=h4;have h6:=jF (cx:=⟨w,[]⟩) (β:=β) e x k4;exact⟨us,k3,h6,by rw[h6.len,gY]⟩
theorem Kz(hti:gM P ti=true)(H:Inv cx.w0 cx.F0 w (rs.map (Tok.res cx β)++fr)){t:TypeId}{x:Operand}{s:SV}{y:Value}(hx:a.eval x=y)(hd:Den cx β s y)(h:yP (Ik ti rs t s) v):
  ∃val,(execOp a.eval ⟨dst,.load t x,ty,pos,aft,gd⟩).run P w=.ok (.value val) w∧Den cx β v val:=by
 unfold Ik at h;cases s with
 |rp u x=>
  unfold Den at hd;obtain⟨b,o,rfl,hp⟩:=hd;obtain⟨us,hc,hs,hl⟩:=Jb (β:=β) hp H;simp only at h;cases hlk:lk ti t with
  |none=>rw[hlk]at h;exact h.no.elim
  |some i=>
   rw[hlk]at h
   by_cases hi:∃m k u' z,i=.st m k u' z
   ·obtain⟨m,k,u',z,rfl⟩:=hi;obtain⟨h1,h2,h3,_⟩:=nX hti hlk;simp only at h;cases hb:Nat.beq u.size k with
    |false=>rw[hb]at h;exact h.no.elim
    |true=>
     rw[hb]at h;have:=h.ok;subst this;exact⟨_,rZ hx h1 (by rw[h2,hl,aU hb]) hc,by unfold Den;exact⟨us,rfl,hs⟩⟩
   ·have h1:=xI hti hlk (fun m k u z e=>hi ⟨m,k,u,z,e⟩)
    have h2:yP (match dS u x with|[v]=>.ok v|_=>.no) v:=by
     cases i with
     |st m k u' z=>exact absurd ⟨m,k,u',z,rfl⟩ hi
     |sc z=>exact h
     |ptr z=>exact h
     |bool=>exact h
     |sl e s u'=>exact h
     |mp u'=>exact h
    split at h2
    ·rename_i s' he;have:=h2.ok;subst this;rw[he]at hs;unfold au at hs;obtain⟨v1,vs',rfl,h3,h4⟩:=hs;exact⟨v1,wX hx h1 (by have:=hc 0 v1 rfl;simpa using this),h3⟩
    ·exact h2.no.elim
 |ptr g o=>
  unfold Den at hd;obtain⟨b,hb,rfl⟩:=hd;simp only at h;cases hcel:jl rs g with
  |none=>rw[hcel]at h;exact h.no.elim
  |some cs=>
   rw[hcel]at h;simp only at h;obtain⟨b',us,t',e1,e2,e3,e4⟩:=zQ H hcel;rw[hb]at e1;injection e1 with e1
   injection e1 with e1
   injection e1 with e1
   subst e1
   have hcs:Go.Tr.bZ w b 0 us:=fun j u hu=>by
    have:=oV (i:=j) e4 (by simpa using hu);simpa using this
   cases hlk:lk ti t with
   |none=>rw[hlk]at h;exact h.no.elim
   |some i=>
    rw[hlk]at h
    by_cases hi:∃m k u' z,i=.st m k u' z
    ·obtain⟨m,k,u',z,rfl⟩:=hi;obtain⟨h1,h2,h3,_⟩:=nX hti hlk;simp only at h;cases htk:takeN k (jI o cs)with
     |none=>rw[htk]at h;exact h.no.elim
     |some l=>
      rw[htk]at h;have:=h.ok;subst this;obtain⟨h4,h5⟩:=o8 htk;rw[kW]at h4;have hd2:=(e2.drop o).take k;rw[h4]at hd2;refine⟨_,rZ hx h1 (by rw[h2,hd2.len,h5]) (us:=(us.drop o).take k) (fun j u hu=> ?_),by unfold Den;exact⟨_,rfl,hd2⟩⟩
      have hj:us[o+j]? =some u:=by
       have:=List.getElem?_take (l:=us.drop o) (i:=k) (j:=j);rw[this]at hu;split at hu
       ·simpa using hu
       ·cases hu
      have:=hcs (o+j) u hj;simpa using this
    ·have h1:=xI hti hlk (fun m k u z e=>hi ⟨m,k,u,z,e⟩)
     have h2:yP (match nth cs o with|some v=>.ok v|none=>.no) v:=by
      cases i with
      |st m k u' z=>exact absurd ⟨m,k,u',z,rfl⟩ hi
      |sc z=>exact h
      |ptr z=>exact h
      |bool=>exact h
      |sl e s u'=>exact h
      |mp u'=>exact h
     split at h2
     ·rename_i s' he;have:=h2.ok;subst this;obtain⟨v1,h3,h4⟩:=e2.get he;exact⟨v1,wX hx h1 (by have:=hcs o v1 h3;simpa using this),h4⟩
     ·exact h2.no.elim
 |ep g s i o=>
  unfold Den at hd;obtain⟨b,m,c,hb,him,rfl⟩:=hd;simp only at h;cases hrow:rowOf rs g with
  |none=>
   rw[hrow]at h;simp only at h;cases hdat:iV rs g with
   |none=>rw[hdat]at h;exact h.no.elim
   |some r=>
    obtain⟨t',s',u,xs⟩:=r;rw[hdat]at h;simp only at h;cases hbs:Nat.beq s s' with
    |false=>rw[hbs]at h;exact h.no.elim
    |true=>
     rw[hbs]at h;simp only[cond_true]at h;have hss:=aU hbs;subst hss
     have hm:m=xs.length:=by
      obtain⟨_,A,c',e⟩:=He H hdat
      rw[hb]at e;injection e
     subst hm;obtain⟨e1,b',c',us,e2,hca,hds⟩:=BH H hdat him;simp only at e1 e2 hca hds;rw[hb]at e2;injection e2 with e3
     injection e3 with e3
     injection e3 with e3
     subst e3;cases hlk:lk ti t with
     |none=>rw[hlk]at h;exact h.no.elim
     |some q=>
      rw[hlk]at h
      by_cases hi:∃m k u' z,q=.st m k u' z
      ·obtain⟨m,k,u',z,rfl⟩:=hi;obtain⟨h1,h2,h3,_⟩:=nX hti hlk;simp only at h;cases htk:takeN k (jI o (dS u (elt (dflt u) xs i)))with
       |none=>rw[htk]at h;exact h.no.elim
       |some l=>
        rw[htk]at h;simp only at h;obtain⟨h4,h5⟩:=o8 htk;rw[kW]at h4;have hd2:=(hds.drop o).take k;rw[h4]at hd2;have:=h.ok;subst this;refine⟨_,rZ hx h1 (by rw[h2,hd2.len,h5]) (us:=(us.drop o).take k) (fun j y hy=> ?_),by unfold Den;exact⟨_,rfl,hd2⟩⟩
        have hj:us[o+j]? =some y:=by
         have:=List.getElem?_take (l:=us.drop o) (i:=k) (j:=j);rw[this]at hy;split at hy
         ·simpa using hy
         ·cases hy
        have:=hca (o+j) y hj;rw[←Nat.add_assoc]at this;exact this
      ·have h1:=xI hti hlk (fun m k u z e=>hi ⟨m,k,u,z,e⟩)
       have h2:yP (match nth (dS u (elt (dflt u) xs i)) o with|some v=>.ok v|none=>.no) v:=by
        cases q with
        |st m k u' z=>exact absurd ⟨m,k,u',z,rfl⟩ hi
        |sc z=>exact h
        |ptr z=>exact h
        |bool=>exact h
        |sl e s u'=>exact h
        |mp u'=>exact h
       split at h2
       ·rename_i s' he;have:=h2.ok;subst this;obtain⟨v1,h3,h4⟩:=hds.get he;exact⟨v1,wX hx h1 (by have:=hca o v1 h3;exact this),h4⟩
       ·exact h2.no.elim
  |some r=>
   obtain⟨t',s',u,xs,us0⟩:=r;rw[hrow]at h;simp only at h;cases hbs:Nat.beq s s' with
   |false=>rw[hbs]at h;exact h.no.elim
   |true=>
    rw[hbs]at h;simp only[cond_true]at h;obtain⟨e1,A,c',bs,e2,e3,_⟩:=zB H hrow;simp only at e1 e2 e3;have hss:=aU hbs;rw[hb]at e2 e3;injection e2 with e4 e5 e6
    subst e4 e5 e6;obtain⟨_,b',off,b1,b2,b3,us,hA,_,hb',hc,ht⟩:=T1.at_ (aT u) e3 rfl him;injection hA with hA
    injection hA with hA1 hA2
    subst hA1 hA2;have hx':xs[i.toNat]'him=elt (dflt u) xs i:=by unfold elt;rw[List.getD_eq_getElem?_getD,List.getElem?_eq_getElem him];rfl
    rw[hx']at ht;have hds:=jF (cx:=⟨w,[]⟩) (β:=β) u _ (kD.of ht)
    have hca:Go.Tr.bZ w b (i.toNat*s+0) us:=by
     have:=hc;rw[Nat.zero_add,e1,←hss]at this;exact this
    cases hlk:lk ti t with
    |none=>rw[hlk]at h;exact h.no.elim
    |some q=>
     rw[hlk]at h
     by_cases hi:∃m k u' z,q=.st m k u' z
     ·obtain⟨m,k,u',z,rfl⟩:=hi;obtain⟨h1,h2,h3,_⟩:=nX hti hlk;simp only at h;cases htk:takeN k (jI o (dS u (elt (dflt u) xs i)))with
      |none=>rw[htk]at h;exact h.no.elim
      |some l=>
       rw[htk]at h;simp only at h;obtain⟨h4,h5⟩:=o8 htk;rw[kW]at h4;have hd2:=(hds.drop o).take k;rw[h4]at hd2
       have hres:∃l',v=.agg l'∧au cx β l' ((us.drop o).take k):=by
        cases hso:jk l with
        |false=>
         rw[hso]at h;simp only[cond_false]at h;cases hne:nT l with
         |false=>rw[hne]at h;exact h.no.elim
         |true=>
          rw[hne]at h;obtain⟨hv1,hv2⟩:=h.vc;exact⟨_,hv2.symm,DU hd2 hne (Ht H hrow hb hca (by rw[hds.len,gY,e1,hss]) hv1)⟩
        |true=>
         rw[hso]at h;exact⟨_,h.ok.symm,hd2.solid hso⟩
       obtain⟨l',rfl,hl'⟩:=hres
       ·refine⟨_,rZ hx h1 (by rw[h2,hd2.len,h5]) (us:=(us.drop o).take k) (fun j y hy=> ?_),by unfold Den;exact⟨_,rfl,hl'⟩⟩
        have hj:us[o+j]? =some y:=by
         have:=List.getElem?_take (l:=us.drop o) (i:=k) (j:=j);rw[this]at hy;split at hy
         ·simpa using hy
         ·cases hy
        have:=hca (o+j) y hj;rw[Nat.add_zero,←Nat.add_assoc]at this;exact this
     ·have h1:=xI hti hlk (fun m k u z e=>hi ⟨m,k,u,z,e⟩)
      have h2:yP (match nth (dS u (elt (dflt u) xs i)) o with|some v=>bif jk [v]then .ok v else bif nT [v]then(match Jw us0 i s o [v]with|[v']=>.vc (i.toNat*s+s≤us0.length) v'|_=>.no)else .no|none=>.no) v:=by
       cases q with
       |st m k u' z=>exact absurd ⟨m,k,u',z,rfl⟩ hi
       |sc z=>exact h
       |ptr z=>exact h
       |bool=>exact h
       |sl e s u'=>exact h
       |mp u'=>exact h
      split at h2
      ·rename_i s' he;obtain⟨v1,h3,h4⟩:=hds.get he
       have hld:(execOp a.eval ⟨dst,.load t x,ty,pos,aft,gd⟩).run P w=.ok (.value v1) w:=wX hx h1 (by
        have:=hca o v1 h3;rw[Nat.add_zero]at this;exact this)
       cases hso:jk [s']with
       |false=>
        rw[hso]at h2;simp only[cond_false]at h2;cases hne:nT [s']with
        |false=>rw[hne]at h2;exact h2.no.elim
        |true=>
         rw[hne]at h2;simp only[cond_true]at h2;split at h2
         ·rename_i v' hv';obtain⟨hv1,hv2⟩:=h2.vc;subst hv2;refine⟨v1,hld,?_⟩
          have hone:((us.drop o).take 1)=[v1]:=by
           rw[←List.getElem?_eq_some_iff.1 h3 |>.2,List.drop_eq_getElem_cons (List.getElem?_eq_some_iff.1 h3).1];rfl
          have:=DU (cx:=cx) (us:=us0) (k:=i) (s:=s) (o:=o) (au.one h4) hne (by
           have:=Ht (o:=o) (n:=1) H hrow hb hca (by rw[hds.len,gY,e1,hss]) hv1;rw[hone]at this;exact this)
          rw[hv']at this;unfold au at this;obtain⟨v2,vs',h5,h6,_⟩:=this;injection h5 with h5
          subst h5;exact h6
         ·exact h2.no.elim
       |true=>
        rw[hso]at h2;have:=h2.ok;subst this;refine⟨v1,hld,?_⟩
        ·have:=(au.one h4).solid (cx':=cx) (β':=β) hso;unfold au at this;obtain⟨v2,vs',h5,h6,_⟩:=this;injection h5 with h5
         subst h5;exact h6
      ·exact h2.no.elim
 |np k o n hdr s2 i j=>
  unfold Den at hd;obtain⟨b,o',c,hh,rfl⟩:=hd;simp only at h;obtain⟨q,hq⟩:=h.ex;clear h;revert hq;intro h;cases hrow:rowOf rs q with
  |none=>rw[hrow]at h;exact h.no.elim
  |some r=>
   rw[hrow]at h;simp only at h;split at h
   ·rename_i e ys hne;cases hbs:Nat.beq s2 e.size with
    |false=>rw[hbs]at h;exact h.no.elim
    |true=>
     rw[hbs]at h;simp only[cond_true]at h;have hss:=aU hbs;subst hss;have key:(Cu r.xs r.us k r.s o hdr∧0≤i∧i<(n:Nat))→∃us,Go.Tr.bZ w b (o'+i.toNat*e.size) us∧au ⟨w,[]⟩ β (dS e (elt (dflt e) ys i)) us∧us.length=e.size:=fun hv=>Iw (EZ H hrow hv.1 hne) hh hv.2.1 hv.2.2
     cases hlk:lk ti t with
     |none=>rw[hlk]at h;exact h.no.elim
     |some z=>
      rw[hlk]at h
      by_cases hi:∃m k u' z',z=.st m k u' z'
      ·obtain⟨m,k',u',z',rfl⟩:=hi;obtain⟨h1,h2,h3,_⟩:=nX hti hlk;simp only at h;cases htk:takeN k' (jI j (dS e (elt (dflt e) ys i)))with
       |none=>rw[htk]at h;exact h.no.elim
       |some l=>
        rw[htk]at h;simp only at h;cases hso:jk l with
        |false=>rw[hso]at h;exact h.no.elim
        |true=>
         rw[hso]at h;obtain⟨hv1,hv2⟩:=h.vc;subst hv2;obtain⟨us,hca,hds,hul⟩:=key hv1;obtain⟨h4,h5⟩:=o8 htk;rw[kW]at h4;have hd2:=(hds.drop j).take k';rw[h4]at hd2;refine⟨_,rZ hx h1 (by rw[h2,hd2.len,h5]) (us:=(us.drop j).take k') (fun p y hy=> ?_),by unfold Den;exact⟨_,rfl,hd2.solid hso⟩⟩
         have hj:us[j+p]? =some y:=by
          rw[List.getElem?_take]at hy;split at hy
          ·simpa using hy
          ·cases hy
         have:=hca (j+p) y hj;rw[←Nat.add_assoc]at this;exact this
      ·have h1:=xI hti hlk (fun m k u z e=>hi ⟨m,k,u,z,e⟩)
       have h2:yP (match nth (dS e (elt (dflt e) ys i)) j with|some v=>bif jk [v]then .vc (Cu r.xs r.us k r.s o hdr∧0≤i∧i<(n:Nat)) v else .no|none=>.no) v:=by
        cases z with
        |st m k u' z=>exact absurd ⟨m,k,u',z,rfl⟩ hi
        |sc z=>exact h
        |ptr z=>exact h
        |bool=>exact h
        |sl e s u'=>exact h
        |mp u'=>exact h
       split at h2
       ·rename_i s' he;cases hso:jk [s']with
        |false=>rw[hso]at h2;exact h2.no.elim
        |true=>
         rw[hso]at h2;obtain⟨hv1,hv2⟩:=h2.vc;subst hv2;obtain⟨us,hca,hds,hul⟩:=key hv1;obtain⟨v1,h3,h4⟩:=hds.get he;refine⟨v1,wX hx h1 (hca j v1 h3),?_⟩;have:=(au.one h4).solid (cx':=cx) (β':=β) hso;unfold au at this;obtain⟨v2,vs',h5,h6,_⟩:=this;injection h5 with h5
         subst h5;exact h6
       ·exact h2.no.elim
   ·exact h.no.elim
 |int _ _|bool _|raw _|rsl _ _|sl _|agg _|tup _|fn _ _|un|gd _ _ _|nh _ _ _ _|mp _|nn _ _|sx _ _ _ _=>exact h.no.elim
theorem Ka{e:U}{xs:List (El e)}{A:Option Addr}{m c:Nat}(h:nY cx.w0 cx.F0 (.sl xs.length (xs.flatMap (enc e))) (.slice A m c)){i:Int}(h0:0≤i)(h1:i<(xs.length:Nat)):
  ∃b off,A=some ⟨b,off,none⟩∧m=xs.length∧zJ cx.w0 cx.F0 b (off+i.toNat*e.size) (enc e (elt (dflt e) xs i)):=by
 have hm:m=xs.length:=by
  obtain⟨bs,ht,_⟩:=h;obtain⟨A',c',h2,_⟩:=ht.slice;injection h2
 obtain⟨b,off,x,h2,h3,h4⟩:=h.elem (aT e) rfl (k:=i.toNat) (by omega);refine⟨b,off,h2,hm,?_⟩
 have:elt (dflt e) xs i=x:=by
  unfold elt;rw[List.getD_eq_getElem?_getD,h3];rfl
 rw[this];exact h4
theorem mI{x:Value}(h:x.oneCell'=true):x.cells= #[x]:=by
 cases x<;>first|rfl|cases h
theorem AB{s:SV}{x:Value}(h:Den cx β s x)(hn:∀l,s≠.agg l):x.cells= #[x]:=by
 cases s<;>unfold Den at h
 case int=>subst h;rfl
 case bool=>subst h;rfl
 case raw=>rw[h.1];exact mI h.2
 case rsl=>obtain⟨A,c,rfl⟩:=h.slice;rfl
 case rp=>obtain⟨b,o,rfl,_⟩:=h;rfl
 case ptr=>obtain⟨b,_,rfl⟩:=h;rfl
 case sl=>obtain⟨_,A,n,c,rfl⟩:=h;rfl
 case ep=>obtain⟨b,m,c,_,_,rfl⟩:=h;rfl
 case agg l=>exact absurd rfl (hn l)
 case tup=>obtain⟨vs,rfl,_⟩:=h;rfl
 case fn=>obtain⟨vs,rfl,_⟩:=h;rfl
 case nh=>obtain⟨rfl,A,c,rfl,_⟩:=h;rfl
 case np=>obtain⟨b,o,c,_,rfl⟩:=h;rfl
 case mp=>obtain⟨_,r,rfl⟩:=h;rfl
 case nn=>obtain⟨_,A,n,c,rfl⟩:=h;rfl
 case sx=>obtain⟨b,m,c,c',_,_,rfl⟩:=h;rfl
 case un=>subst h;rfl
 case gd=>exact h.elim
theorem vS{s:SV}{x:Value}(h:Den cx β s x):∃us:List Value,x.cells=us.toArray∧au cx β (cellsOf s) us:=by
 cases s
 case agg l=>unfold Den at h;obtain⟨vs,rfl,h2⟩:=h;exact⟨vs,rfl,h2⟩
 all_goals exact⟨[x],by rw[AB h (by intro l e;cases e)],au.one h⟩
theorem AV:∀{o:Nat} {l cs r:List SV},xC o l cs=some r→r=cs.take o++l++cs.drop (o+l.length)∧o+l.length≤cs.length
 |0,[],cs,r,h=>by unfold xC at h;injection h with h;subst h;simp
 |0,v::l,c::cs,r,h=>by
  unfold xC at h;split at h
  ·rename_i q hq;injection h with h
   subst h;obtain⟨h1,h2⟩:=AV hq;simp only[List.take_zero,List.nil_append,Nat.zero_add,List.length_cons]at h1 h2 ⊢;exact⟨by rw[h1];simp,by omega⟩
  ·cases h
 |o+1,l,c::cs,r,h=>by
  have h:(match xC o l cs with|some r=>some (c::r)|none=>none)=some r:=by
   cases l<;>(unfold xC at h;exact h)
  split at h
  ·rename_i q hq;injection h with h
   subst h;obtain⟨h1,h2⟩:=AV hq;refine⟨?_,by simp;omega⟩;have e:o+1+l.length=(o+l.length)+1:=by omega
   rw[e,List.take_succ_cons,List.drop_succ_cons,h1];simp
  ·cases h
 |0,v::l,[],r,h=>by unfold xC at h;cases h
 |o+1,[],[],r,h=>by unfold xC at h;cases h
 |o+1,v::l,[],r,h=>by unfold xC at h;cases h
theorem EB(E:iB cx β n a env)(hg:jq a g){m:Nat}{u:U}:∀{l:List (Nat×Operand)} {cs r:List SV} {cells:Array Value},GX env g m u l cs=some r→au cx β cs cells.toList→
  ∃q,Instr.fill (((List.range m).map fun i=>(jQ i m u,Dw i m u)).toArray[·]?) cells (l.map fun x=>(x.1,a.eval x.2))=some q∧au cx β r q.toList
 |[],cs,r,cells,h,hd=>by
  unfold GX at h;injection h with h
  subst h;exact⟨cells,rfl,hd⟩
 |(i,x)::l,cs,r,cells,h,hd=>by
  unfold GX at h;cases hx:evs env g x with
  |none=>rw[hx]at h;cases h
  |some v=>
   rw[hx]at h;simp only at h;cases hb:(Nat.blt i m&&Nat.beq (cellsOf v).length (Dw i m u))with
   |false=>rw[hb]at h;cases h
   |true=>
    rw[hb]at h;simp only[cond_true]at h;rw[Bool.and_eq_true]at hb;have him:i<m:=by simpa using hb.1
    split at h
    ·rename_i cs' hs;obtain⟨h1,h2⟩:=AV hs;obtain⟨y,h3,h4⟩:=aJ E hg hx;obtain⟨us,h5,h6⟩:=vS h4;have hl:=h6.len;have hcl:=hd.len
     have hle:jQ i m u+us.length≤cells.size:=by
      rw[←Array.length_toList,hcl,hl];exact h2
     have hz:(y.cells.zipIdx.foldl (fun cs (c,j)=>cs.setIfInBounds (jQ i m u+j) c) cells).toList=cells.toList.take (jQ i m u)++us++cells.toList.drop (jQ i m u+us.length):=by
      have:=foldl_set us 0 (jQ i m u) cells (by omega);rw[h5,←Array.foldl_toList,Array.toList_zipIdx];simpa using this
     have hd2:au cx β cs' (y.cells.zipIdx.foldl (fun cs (c,j)=>cs.setIfInBounds (jQ i m u+j) c) cells).toList:=by
      rw[hz,h1,←hl];exact((hd.take _).app h6).app (hd.drop _)
     obtain⟨q,k1,k2⟩:=EB E hg h hd2;refine⟨q,?_,k2⟩;rw[List.map_cons];unfold Instr.fill;simp only[List.getElem?_toArray,List.getElem?_map,List.getElem?_range him,Option.map_some];rw[if_neg (by rw[h3,h5];have:=aU hb.2;simp;omega),h3];simpa using k1
    ·cases h
theorem DN(H:Inv cx.w0 cx.F0 w (rs.map (Tok.res cx β)++fr)){q:Nat}{r:Ls}(h:mapOf rs q=some r):
  u1 r.u=true∧∃(b:Nat) (es:List MapEntry) (cl:Nat),β q=.map (some b)∧w.heap[b]? =some (.map es.toArray cl)∧es.map (fun e=>(e.key,e.val))=r.kv.map (fun x=>(Value.int .i64 x.1,sH r.u x.2)):=by
 obtain⟨i,hi⟩:=Gc h
 obtain⟨F,h1,b,es,cl,h2,h3,h4,h5⟩:=H.mem i (r:=Tok.res cx β (.map q r.u r.kv)) (by
  rw[List.getElem?_append_left (by simpa using(List.getElem?_eq_some_iff.1 hi).1),List.getElem?_map,hi];rfl)
 exact⟨h1,b,es,cl,h2,h4,h5⟩
theorem qB{u:U}(d:El u)(i:Int):∀{es:List MapEntry} {kv:List (Int×El u)} {n:Nat},es.map (fun e=>(e.key,e.val))=kv.map (fun x=>(Value.int .i64 x.1,sH u x.2))→
  (∃j,Instr.findNow (.int .i64) (.int .i64 i) es n=some (some (j,sH u (dI d kv i))))∨(Instr.findNow (.int .i64) (.int .i64 i) es n=some none∧dI d kv i=d)
 |[],[],n,_=>.inr ⟨rfl,rfl⟩
 |[],_::_,n,h=>by simp at h
 |_::_,[],n,h=>by simp at h
 |e::es,(k,x)::kv,n,h=>by
  simp only[List.map_cons,List.cons.injEq,Prod.mk.injEq]at h;obtain⟨⟨h1,h2⟩,h3⟩:=h;unfold Instr.findNow dI;rw[h1];simp only[Instr.sameNow,if_true];cases hk:(i==k)with
  |true=>
   have:=eq_of_beq hk;subst this;simp only[BEq.rfl,cond_true];exact .inl ⟨n,by rw[h2]⟩
  |false=>
   have:(k==i)=false:=by rw[beq_eq_false_iff_ne]at hk ⊢;exact fun e=>hk e.symm
   rw[this];simp only[cond_false];exact qB d i h3
theorem CF{x y:Operand}{t k e b:Nat}{es:List MapEntry}{cl:Nat}{u:U}{kv:List (Int×El u)}{i:Int}{inf:TypeInfo}(hx:a.eval x=.map (some b))(hy:a.eval y=.int .i64 i)(ht:P.underlying t=some (.map k e))(hk:P.underlying k=some (.int .i64))(hi:P.info? e=some inf)(hz:inf.zero=some (sH u (dflt u)))
  (hb:w.heap[b]? =some (.map es.toArray cl)) (he:es.map (fun e=>(e.key,e.val))=kv.map (fun x=>(Value.int .i64 x.1,sH u x.2))):(execOp a.eval ⟨dst,.lookup t x y false,ty,pos,aft,gd⟩).run P w=.ok (.value (sH u (dI (dflt u) kv i))) w:=by
 have hg:(getObj b).run P w=.ok (.map es.toArray cl) w:=by simp[getObj,Sem.run,hb]
 have hc:∀em:Bool,(Instr.checkKey em 10000 k (.int .i64 i)).run P w=.ok () w:=fun em=>by
  unfold Instr.checkKey;simp[run_underlying hk]
 have hzv:(zeroValue e).run P w=.ok (sH u (dflt u)) w:=by simp[zeroValue,typeInfo,hi,hz]
 rcases qB (dflt u) i (n:=0) he with⟨j,h1⟩|⟨h1,h2⟩
 ·simp[execOp,hx,hy,Instr.lookup,run_underlying ht,hg,hc,Instr.findKey,run_underlying hk,h1]
 ·simp[execOp,hx,hy,Instr.lookup,run_underlying ht,hg,hc,Instr.findKey,run_underlying hk,h1,hzv,h2]
theorem wu{u:U}(i:Int):∀{es:List MapEntry} {kv:List (Int×El u)} {n:Nat},es.map (fun e=>(e.key,e.val))=kv.map (fun x=>(Value.int .i64 x.1,sH u x.2))→
  (∃j v,Instr.findNow (.int .i64) (.int .i64 i) es n=some (some (j,v))∧gF kv i=true)∨(Instr.findNow (.int .i64) (.int .i64 i) es n=some none∧gF kv i=false)
 |[],[],n,_=>.inr ⟨rfl,rfl⟩
 |[],_::_,n,h=>by simp at h
 |_::_,[],n,h=>by simp at h
 |e::es,(k,x)::kv,n,h=>by
  simp only[List.map_cons,List.cons.injEq,Prod.mk.injEq]at h;obtain⟨⟨h1,h2⟩,h3⟩:=h;unfold Instr.findNow gF;rw[h1];simp only[Instr.sameNow,if_true];cases hk:(i==k)with
  |true=>
   have:=eq_of_beq hk;subst this;simp only[BEq.rfl,cond_true];exact .inl ⟨n,e.val,rfl,by first|rfl|trivial⟩
  |false=>
   have:(k==i)=false:=by rw[beq_eq_false_iff_ne]at hk ⊢;exact fun e=>hk e.symm
   rw[this];simp only[cond_false];exact wu i h3
theorem zy{x y:Operand}{t k e b:Nat}{es:List MapEntry}{cl:Nat}{u:U}{kv:List (Int×El u)}{i:Int}{inf:TypeInfo}(hx:a.eval x=.map (some b))(hy:a.eval y=.int .i64 i)(ht:P.underlying t=some (.map k e))(hk:P.underlying k=some (.int .i64))(hi:P.info? e=some inf)(hz:inf.zero=some (sH u (dflt u)))
  (hb:w.heap[b]? =some (.map es.toArray cl)) (he:es.map (fun e=>(e.key,e.val))=kv.map (fun x=>(Value.int .i64 x.1,sH u x.2))):(execOp a.eval ⟨dst,.lookup t x y true,ty,pos,aft,gd⟩).run P w=.ok (.value (.tuple #[sH u (dI (dflt u) kv i),.bool (gF kv i)])) w:=by
 have hg:(getObj b).run P w=.ok (.map es.toArray cl) w:=by simp[getObj,Sem.run,hb]
 have hc:∀em:Bool,(Instr.checkKey em 10000 k (.int .i64 i)).run P w=.ok () w:=fun em=>by
  unfold Instr.checkKey;simp[run_underlying hk]
 have hzv:(zeroValue e).run P w=.ok (sH u (dflt u)) w:=by simp[zeroValue,typeInfo,hi,hz]
 rcases qB (dflt u) i (n:=0) he with⟨j,h1⟩|⟨h1,h2⟩<;>rcases wu i (n:=0) he with⟨j',v',h3,h4⟩|⟨h3,h4⟩
 ·simp[execOp,hx,hy,Instr.lookup,run_underlying ht,hg,hc,Instr.findKey,run_underlying hk,h1,h4]
 ·rw[h1]at h3;cases h3
 ·rw[h1]at h3;cases h3
 ·simp[execOp,hx,hy,Instr.lookup,run_underlying ht,hg,hc,Instr.findKey,run_underlying hk,h1,hzv,h2,h4]
theorem MF{x:Operand}{t k e b:Nat}{es:List MapEntry}{cl:Nat}(hx:a.eval x=.map (some b))(ht:P.underlying t=some (.map k e))(hb:w.heap[b]? =some (.map es.toArray cl)):
  (execOp a.eval ⟨dst,.call { callee:=.builtin .len,args:= #[x],argTypes:= #[t]},ty,pos,aft,gd⟩).run P w=.ok (.value (.int .i64 es.length)) w:=by
 have hg:(getObj b).run P w=.ok (.map es.toArray cl) w:=by simp[getObj,Sem.run,hb]
 simp[execOp,resolve,invoke,builtin,hx,Builtin.len_,run_underlying ht,hg,goInt]
theorem NY{x y:Operand}{k k2:IntKind}{i j:Int}{tys:Array TypeId}(hx:a.eval x=.int k i)(hy:a.eval y=.int k2 j):
  (execOp a.eval ⟨dst,.call { callee:=.builtin .max,args:= #[x,y],argTypes:=tys},ty,pos,aft,gd⟩).run P w=.ok (.value (.int k (max i j))) w:=by
 have e:(if j>i then j else i)=max i j:=by split<;>omega
 simp[execOp,resolve,invoke,builtin,hx,hy,Builtin.max_,Builtin.max2,e]
theorem NZ{x y:Operand}{k k2:IntKind}{i j:Int}{tys:Array TypeId}(hx:a.eval x=.int k i)(hy:a.eval y=.int k2 j):
  (execOp a.eval ⟨dst,.call { callee:=.builtin .min,args:= #[x,y],argTypes:=tys},ty,pos,aft,gd⟩).run P w=.ok (.value (.int k (min i j))) w:=by
 have e:(if j<i then j else i)=min i j:=by split<;>omega
 simp[execOp,resolve,invoke,builtin,hx,hy,Builtin.min_,Builtin.min2,e]
theorem Mx(hti:gM P ti=true)(E:iB cx β n a env)(hg:jq a g)(H:Inv cx.w0 cx.F0 w (rs.map (Tok.res cx β)++fr)){op:Op}(h:yP (sM ti env rs g op) v):
  ∃val,(execOp a.eval ⟨dst,op,ty,pos,aft,gd⟩).run P w=.ok (.value val) w∧Den cx β v val:=by
 cases op
 case move x=>
  unfold sM at h;cases hx:evs env g x with
  |none=>simp only[hx]at h;exact h.no.elim
  |some s=>
   simp only[hx]at h;have:=h.ok;subst this;obtain⟨y,h1,h2⟩:=aJ E hg hx;exact⟨y,MG h1,h2⟩
 case assign x=>
  unfold sM at h;cases hx:evs env g x with
  |none=>simp only[hx]at h;exact h.no.elim
  |some s=>
   simp only[hx]at h;have:=h.ok;subst this;obtain⟨y,h1,h2⟩:=aJ E hg hx;exact⟨y,IW h1,h2⟩
 case nilCheck x=>
  unfold sM at h;simp only at h;split at h
  ·rename_i u z hx;have:=h.ok;subst this;obtain⟨y,h1,h2⟩:=aJ E hg hx;have h2':=h2;unfold Den at h2';obtain⟨b,o,rfl,h3⟩:=h2';exact⟨_,Fz h1,h2⟩
  ·rename_i k o hx;have:=h.ok;subst this;obtain⟨y,h1,h2⟩:=aJ E hg hx;have h2':=h2;unfold Den at h2';obtain⟨b,hb,rfl⟩:=h2';exact⟨_,Fz h1,h2⟩
  ·rename_i k s i o hx;have:=h.ok;subst this;obtain⟨y,h1,h2⟩:=aJ E hg hx;have h2':=h2;unfold Den at h2';obtain⟨b,m,c,hb,him,rfl⟩:=h2';exact⟨_,Fz h1,h2⟩
  ·rename_i hx;have:=h.ok;subst this;obtain⟨y,h1,h2⟩:=aJ E hg hx;have h2':=h2;unfold Den at h2';obtain⟨b,o,c,hb,rfl⟩:=h2';exact⟨_,Fz h1,h2⟩
  ·exact h.no.elim
 case fieldAddr s x i=>
  unfold sM at h;simp only at h;split at h
  ·rename_i m k u' zz u z hlk hx;obtain⟨h1,h2,h3,h4⟩:=nX hti hlk;obtain⟨y,h5,h6⟩:=aJ E hg hx;unfold Den at h6;obtain⟨b,o,rfl,hp⟩:=h6;cases hb:Nat.beq (jQ i m u) (jQ i m u')with
   |false=>rw[hb]at h;exact h.no.elim
   |true=>
    rw[hb]at h;simp only[cond_true]at h;split at h
    ·rename_i u2 x2 hf;have:=h.ok;subst this;obtain⟨h7,d1,d2,h8,h9⟩:=Af _ _ _ _ hf;rw[h8]at hp;refine⟨_,KI h5 (h4 i h7) rfl,?_⟩;unfold Den;refine⟨b,_,rfl,?_⟩;rw[←aU hb,←h9];exact hp.append.2.append.1
    ·exact h.no.elim
  ·rename_i m k u zz h' o hlk hx;obtain⟨h1,h2,h3,h4⟩:=nX hti hlk;cases hb:Nat.blt i m with
   |false=>rw[hb]at h;exact h.no.elim
   |true=>
    rw[hb]at h;have:=h.ok;subst this;obtain⟨y,h5,h6⟩:=aJ E hg hx;unfold Den at h6;obtain⟨b,hb',rfl⟩:=h6;exact⟨_,KI h5 (h4 i (by simpa using hb)) rfl,by unfold Den;exact⟨b,hb',rfl⟩⟩
  ·rename_i m k u zz h' s j o hlk hx;obtain⟨h1,h2,h3,h4⟩:=nX hti hlk;cases hb:Nat.blt i m with
   |false=>rw[hb]at h;exact h.no.elim
   |true=>
    rw[hb]at h;have:=h.ok;subst this;obtain⟨y,h5,h6⟩:=aJ E hg hx;unfold Den at h6;obtain⟨b,mm,c,hb',him,rfl⟩:=h6;exact⟨_,KI h5 (h4 i (by simpa using hb)) rfl,by unfold Den;exact⟨b,mm,c,hb',him,by rw[Nat.add_assoc]⟩⟩
  ·rename_i m k u zz k0 o0 n0 hdr0 s0 q0 j0 hlk hx;obtain⟨h1,h2,h3,h4⟩:=nX hti hlk;cases hb:Nat.blt i m with
   |false=>rw[hb]at h;exact h.no.elim
   |true=>
    rw[hb]at h;have:=h.ok;subst this;obtain⟨y,h5,h6⟩:=aJ E hg hx;unfold Den at h6;obtain⟨b,oo,c,hb',rfl⟩:=h6;exact⟨_,KI h5 (h4 i (by simpa using hb)) rfl,by unfold Den;exact⟨b,oo,c,hb',by rw[Nat.add_assoc]⟩⟩
  ·exact h.no.elim
 case load t x=>
  unfold sM at h;cases hx:evs env g x with
  |none=>simp only[hx]at h;exact h.no.elim
  |some s=>
   simp only[hx]at h;obtain⟨y,h1,h2⟩:=aJ E hg hx;exact Kz hti H h1 h2 h
 case binOp o t x y u=>
  unfold sM at h;simp only at h;split at h
  ·rename_i b1 b2 hx hy;obtain⟨v1,h1,d1⟩:=aJ E hg hx;obtain⟨v2,h2,d2⟩:=aJ E hg hy;rw[iE d1]at h1;rw[iE d2]at h2
   have hgu:∀w:World,(eqGuard o t x y (.bool b1) (.bool b2)).run P w=.ok () w:=fun w=>by
    unfold eqGuard;split<;>rfl
   split at h
   ·rename_i hlk;have h3:=qj hti hlk;unfold nV at h3;simp only[Bool.and_eq_true]at h3
    have h4:P.underlying t=some .bool:=by
     have:=h3.2;split at this<;>simp_all
    have:=h.ok;subst this;exact⟨.bool (b1==b2),by simp only[execOp,h1,h2,Sem.run_bind,hgu,run_eql_bool w t b1 b2 h4,Result.andThen_ok,Sem.run_pure],by unfold Den;rfl⟩
   ·rename_i hlk;have h3:=qj hti hlk;unfold nV at h3;simp only[Bool.and_eq_true]at h3
    have h4:P.underlying t=some .bool:=by
     have:=h3.2;split at this<;>simp_all
    have:=h.ok;subst this;exact⟨.bool (!(b1==b2)),by simp only[execOp,h1,h2,Sem.run_bind,hgu,run_neq_bool w t b1 b2 h4,Result.andThen_ok,Sem.run_pure],by unfold Den;rfl⟩
   ·exact h.no.elim
  ·rename_i hx hy;obtain⟨v1,h1,d1⟩:=aJ E hg hx;obtain⟨v2,h2,d2⟩:=aJ E hg hy;split at h
   ·rename_i hlk;obtain⟨_,hel,_⟩:=kI hti hlk;have:=h.ok;subst this;unfold Den at d1 d2;obtain⟨rfl,_⟩:=d1;obtain⟨rfl,_⟩:=d2;unfold jA at hel;split at hel
    ·rename_i e' hu;exact⟨_,MH h1 h2 hu,by unfold Den;rfl⟩
    ·cases hel
   ·exact h.no.elim
  ·rename_i hx hy;obtain⟨v1,h1,d1⟩:=aJ E hg hx;obtain⟨v2,h2,d2⟩:=aJ E hg hy;split at h
   ·rename_i hlk;obtain⟨_,hel,_⟩:=kI hti hlk;have:=h.ok;subst this;unfold Den at d1 d2;obtain⟨_,A,n',c',rfl⟩:=d1;obtain⟨rfl,_⟩:=d2;unfold jA at hel;split at hel
    ·rename_i e' hu;exact⟨_,MI h1 h2 hu,by unfold Den;rfl⟩
    ·cases hel
   ·exact h.no.elim
  ·rename_i s1 s2 hne1 hne2 hne3 hx hy;obtain⟨v1,h1,d1⟩:=aJ E hg hx;obtain⟨v2,h2,d2⟩:=aJ E hg hy;exact LM h1 d1 h2 d2 h
  ·exact h.no.elim
 case unOp o t x=>
  cases o<;>unfold sM at h<;>simp only at h<;>first|exact h.no.elim|skip
  all_goals
   split at h
   ·rename_i hx;obtain⟨v1,h1,d1⟩:=aJ E hg hx;have:=h.ok;subst this
    first
     |(have:=iE d1;subst this;exact⟨_,N9 h1 rfl,by unfold Den;rfl⟩)
     |(have:=dH d1;subst this;exact⟨_,N8 h1 rfl,by unfold Den;rfl⟩)
   ·exact h.no.elim
 case indexAddr t x y=>
  unfold sM at h;simp only at h;split at h
  ·rename_i ee ss u e xs i hlk hx hy;obtain⟨h1,h2,h3⟩:=kI hti hlk;obtain⟨v1,e1,d1⟩:=aJ E hg hx;obtain⟨v2,e2,d2⟩:=aJ E hg hy;cases hb:Nat.beq u.size e.size with
   |false=>rw[hb]at h;exact h.no.elim
   |true=>
    rw[hb]at h;simp only[cond_true]at h;obtain⟨⟨h4,h5⟩,h6⟩:=h.vc;subst h6;have:=dH d2;subst this;unfold Den at d1;obtain⟨A,c,rfl⟩:=d1.slice;obtain⟨b,off,rfl,hm,hp⟩:=Ka d1 h4 h5;refine⟨_,IY (k:=i.toNat) e1 e2 (by omega) h2 (by omega) rfl,?_⟩;unfold Den;exact⟨b,_,rfl,by rw[←h3,aU hb];exact hp⟩
  ·rename_i ee ss uu k0 o0 n0 hdr0 i hlk hx hy;obtain⟨h1,h2,h3⟩:=kI hti hlk;obtain⟨v1,e1,d1⟩:=aJ E hg hx;obtain⟨v2,e2,d2⟩:=aJ E hg hy;obtain⟨⟨h4,h5⟩,h6⟩:=h.vc;subst h6;have:=dH d2;subst this;unfold Den at d1;obtain⟨rfl,A,c,rfl,hp⟩:=d1;obtain⟨b,off,rfl⟩:=hp (by omega);refine⟨_,IY (k:=i.toNat) e1 e2 (by omega) h2 (by omega) rfl,?_⟩;unfold Den;exact⟨b,off,c,rfl,rfl⟩
  ·rename_i ee ss uu h' i hlk hx hy;obtain⟨h1,h2,h3⟩:=kI hti hlk;obtain⟨v1,e1,d1⟩:=aJ E hg hx;obtain⟨v2,e2,d2⟩:=aJ E hg hy;split at h
   ·rename_i t' s' u xs us0 hrow;cases hb:Nat.beq ss s' with
    |false=>rw[hb]at h;exact h.no.elim
    |true=>
     rw[hb]at h;simp only[cond_true]at h;obtain⟨⟨h4,h5⟩,h6⟩:=h.vc;subst h6;have:=dH d2;subst this;unfold Den at d1;obtain⟨d1,_⟩:=d1;subst d1;obtain⟨k1,A,c,bs,k2,k3,k4⟩:=zB H hrow;simp only at k1 k2 k4;have hlt:i.toNat<xs.length:=by omega
     obtain⟨b,rfl⟩:=k4 (by omega);refine⟨_,IY (k:=i.toNat) (e1.trans k2) e2 (by omega) h2 hlt rfl,?_⟩;unfold Den;exact⟨b,_,c,k2,hlt,by simp⟩
   ·split at h
    ·rename_i t' s' u xs hrow;cases hb:Nat.beq ss s' with
     |false=>rw[hb]at h;exact h.no.elim
     |true=>
      rw[hb]at h;simp only[cond_true]at h;obtain⟨⟨h4,h5⟩,h6⟩:=h.vc;subst h6;have:=dH d2;subst this;unfold Den at d1;obtain⟨d1,_⟩:=d1;subst d1;have hlt:i.toNat<xs.length:=by omega
      obtain⟨k1,b,c,us,k2,_⟩:=BH H hrow hlt;simp only at k2;refine⟨_,IY (k:=i.toNat) (e1.trans k2) e2 (by omega) h2 hlt rfl,?_⟩;unfold Den;exact⟨b,_,c,k2,hlt,by simp⟩
    ·exact h.no.elim
  ·rename_i ee ss uu h' s' lo n i hlk hx hy;obtain⟨h1,h2,h3⟩:=kI hti hlk;obtain⟨v1,e1,d1⟩:=aJ E hg hx;obtain⟨v2,e2,d2⟩:=aJ E hg hy;cases hb:Nat.beq ss s' with
   |false=>rw[hb]at h;exact h.no.elim
   |true=>
    rw[hb]at h;simp only[cond_true]at h;obtain⟨⟨h4,h5⟩,h6⟩:=h.vc;subst h6;have hs:=aU hb;subst hs;have:=dH d2;subst this;unfold Den at d1;obtain⟨b,m,c,c',k1,k2,rfl⟩:=d1;refine⟨_,IY (k:=i.toNat) e1 e2 (by omega) h2 (by omega) rfl,?_⟩;unfold Den;have ht:((lo:Int)+i).toNat=lo+i.toNat:=by omega
    exact⟨b,m,c,k1,by omega,by rw[ht,Nat.add_mul];rfl⟩
  ·exact h.no.elim
 case slice t x y z1 z2=>
  match y,z1,z2,h with
  |some y,none,none,h=>
   unfold sM at h;simp only at h;split at h
   ·rename_i ee ss uu h' i hlk hx hy;obtain⟨h1,h2,h3⟩:=kI hti hlk;obtain⟨v1,e1,d1⟩:=aJ E hg hx;obtain⟨v2,e2,d2⟩:=aJ E hg hy;split at h
    ·rename_i t' s' u xs us0 hrow;cases hb:Nat.beq ss s' with
     |false=>rw[hb]at h;exact h.no.elim
     |true=>
      rw[hb]at h;simp only[cond_true]at h;obtain⟨⟨h4,h5⟩,h6⟩:=h.vc;subst h6;have:=dH d2;subst this;unfold Den at d1;obtain⟨d1,_⟩:=d1;subst d1;obtain⟨b,c,k2,k3⟩:=MN H hrow (by show 0<xs.length;omega);simp only at k2 k3;have hi:i=((i.toNat:Nat):Int):=by omega
      refine⟨_,KM (i:=i.toNat) (e1.trans k2) (e2.trans (by rw[←hi])) h2 (by omega) (by omega),?_⟩;unfold Den;exact⟨b,xs.length,c,c-i.toNat,k2,by omega,by simp only[Nat.zero_add]⟩
    ·exact h.no.elim
   ·exact h.no.elim
  |none,_,_,h=>unfold sM at h;exact h.no.elim
  |some _,some _,_,h=>unfold sM at h;exact h.no.elim
  |some _,none,some _,h=>unfold sM at h;exact h.no.elim
 case build t ps=>
  unfold sM at h;simp only at h;split at h
  ·rename_i m k u zs hlk;split at h
   ·rename_i l hb;have:=h.ok;subst this;obtain⟨h1,_,h2⟩:=pY hti hlk;obtain⟨h3,h4⟩:=vW (cx:=cx) (β:=β) h1;have hpl:=Oo hti hlk;unfold zeroOf at h2;cases hq:P.info? t with
    |none=>rw[hq]at h2;simp at h2
    |some it=>
     rw[hq]at h2;simp only[Option.bind_some]at h2;cases hz:it.zero with
     |none=>rw[hz]at h2;simp at h2
     |some z=>
      rw[hz]at h2;simp only[Option.map_some,Option.some.injEq]at h2;rw[←h2]at h3;obtain⟨q,k1,k2⟩:=EB (cells:=z.cells) E hg hb h3
      have hbt:P.built t (ps.map fun(i,x)=>(i,a.eval x)).toList=some q:=by
       unfold placesOf at hpl;unfold Program.built;split at hpl
       ·rename_i fields hu;rw[hq,hu];simp only[hz,hpl];rw[Array.toList_map];exact k1
       ·cases hpl
      refine⟨.agg q,KH rfl (run_build w t _ q hbt),?_⟩;unfold Den;exact⟨q.toList,by simp,k2⟩
   ·exact h.no.elim
  ·exact h.no.elim
 case extract x i=>
  unfold sM at h;simp only at h;split at h
  ·rename_i l hx;obtain⟨v1,e1,d1⟩:=aJ E hg hx;unfold Den at d1;obtain⟨vs,rfl,d1⟩:=d1;split at h
   ·rename_i s hs;have:=h.ok;subst this;obtain⟨y,h1,h2⟩:=d1.get hs;exact⟨y,NW e1 h1,h2⟩
   ·exact h.no.elim
  ·exact h.no.elim
 case pick c x y=>
  cases c with
  |tmp c=>
   unfold sM at h;simp only at h;split at h
   ·rename_i b hl;obtain⟨v0,hv0,hd0⟩:=Kj E hg hl;have hb0:v0=.bool b:=iE hd0;subst hb0
    have hc0:a.eval (.tmp c)=.bool b:=by
     show a.tmps.getD c undef=_;rw[Array.getD_eq_getD_getElem?,hv0];rfl
    split at h
    ·rename_i s1 s2 hx hy;split at h
     ·rename_i r hp;have:=h.ok;subst this;cases b with
      |true=>
       obtain⟨v1,e1,d1⟩:=EM E hg (fun d b hh=>by injection hh with hh;injection hh with h1 h2;subst h1 h2;exact hv0) hx;refine⟨v1,I4 hc0 e1,?_⟩;unfold DZ at hp;split at hp<;>first|(injection hp with hp;subst hp;exact d1)|cases hp
      |false=>
       obtain⟨v1,e1,d1⟩:=EM E hg (fun d b hh=>by injection hh with hh;injection hh with h1 h2;subst h1 h2;exact hv0) hy;refine⟨v1,IZ hc0 e1,?_⟩;unfold DZ at hp;split at hp<;>first|(injection hp with hp;subst hp;exact d1)|cases hp
     ·exact h.no.elim
    ·exact h.no.elim
   ·exact h.no.elim
  |const _|global _|func _=>unfold sM at h;exact h.no.elim
 case call c=>
  obtain⟨ce,ar,tys⟩:=c;unfold sM at h;simp only at h;split at h
  ·rename_i x t h1 h2;split at h
   ·rename_i ee ss u e xs hlk hx;obtain⟨h3,h4,h5⟩:=kI hti hlk;obtain⟨v1,e1,d1⟩:=aJ E hg hx;have:=h.ok;subst this;unfold Den at d1;obtain⟨A,c,hs⟩:=d1.slice;subst hs;have har:ar= #[x]:=by simpa using congrArg List.toArray h1
    have hty:tys= #[t]:=by simpa using congrArg List.toArray h2
    subst har hty;exact⟨_,zx e1 h4,by unfold Den;rfl⟩
   ·rename_i ee ss uu h' hlk hx;obtain⟨h3,h4,h5⟩:=kI hti hlk;obtain⟨v1,e1,d1⟩:=aJ E hg hx;split at h
    ·rename_i t' s' u xs us0 hrow;have:=h.ok;subst this;unfold Den at d1;obtain⟨d1,_⟩:=d1;obtain⟨k1,A,c,bs,k2,k3,k4⟩:=zB H hrow;simp only at k2;rw[k2]at d1;subst d1;have har:ar= #[x]:=by simpa using congrArg List.toArray h1
     have hty:tys= #[t]:=by simpa using congrArg List.toArray h2
     subst har hty;exact⟨_,zx e1 h4,by unfold Den;rfl⟩
    ·split at h
     ·rename_i t' s' u xs hrow;have:=h.ok;subst this;unfold Den at d1;obtain⟨d1,_⟩:=d1;obtain⟨k1,A,c,k2⟩:=He H hrow;simp only at k2;rw[k2]at d1;subst d1;have har:ar= #[x]:=by simpa using congrArg List.toArray h1
      have hty:tys= #[t]:=by simpa using congrArg List.toArray h2
      subst har hty;exact⟨_,zx e1 h4,by unfold Den;rfl⟩
     ·exact h.no.elim
   ·rename_i ee ss uu hlk hx;obtain⟨h3,h4,h5⟩:=kI hti hlk;obtain⟨v1,e1,d1⟩:=aJ E hg hx;have:=h.ok;subst this;unfold Den at d1;obtain⟨d1,_⟩:=d1;subst d1;have har:ar= #[x]:=by simpa using congrArg List.toArray h1
    have hty:tys= #[t]:=by simpa using congrArg List.toArray h2
    subst har hty;exact⟨_,zx e1 h4,by unfold Den;rfl⟩
   ·rename_i hlk hx;obtain⟨h3,h4,h5⟩:=kI hti hlk;obtain⟨v1,e1,d1⟩:=aJ E hg hx;have:=h.ok;subst this;unfold Den at d1;obtain⟨rfl,A,c,rfl,_⟩:=d1;have har:ar= #[x]:=by simpa using congrArg List.toArray h1
    have hty:tys= #[t]:=by simpa using congrArg List.toArray h2
    subst har hty;exact⟨_,zx e1 h4,by unfold Den;rfl⟩
   ·rename_i hlk hx;obtain⟨h3,h4,h5⟩:=kI hti hlk;obtain⟨v1,e1,d1⟩:=aJ E hg hx;have:=h.ok;subst this;unfold Den at d1;obtain⟨b,m,c,c',_,_,rfl⟩:=d1;have har:ar= #[x]:=by simpa using congrArg List.toArray h1
    have hty:tys= #[t]:=by simpa using congrArg List.toArray h2
    subst har hty;exact⟨_,zx e1 h4,by unfold Den;rfl⟩
   ·rename_i hlk hx;obtain⟨h3,k,e,h4,h5,_⟩:=C9 hti hlk;obtain⟨v1,e1,d1⟩:=aJ E hg hx;split at h
    ·rename_i u' kv hm;have:=h.ok;subst this;obtain⟨_,b,es,cl,q1,q2,q3⟩:=DN H hm;unfold Den at d1;have har:ar= #[x]:=by simpa using congrArg List.toArray h1
     have hty:tys= #[t]:=by simpa using congrArg List.toArray h2
     subst har hty;have hl:es.length=kv.length:=by simpa using congrArg List.length q3
     exact⟨_,MF (e1.trans (d1.1.trans q1)) h4 q2,by unfold Den;rw[hl]⟩
    ·exact h.no.elim
   ·exact h.no.elim
  ·rename_i x y h1;split at h
   ·rename_i k i k2 j hx hy;have:=h.ok;subst this;obtain⟨v1,e1,d1⟩:=aJ E hg hx;obtain⟨v2,e2,d2⟩:=aJ E hg hy;rw[dH d1]at e1;rw[dH d2]at e2;have har:ar= #[x,y]:=by simpa using congrArg List.toArray h1
    subst har;exact⟨_,NY e1 e2,by unfold Den;rfl⟩
   ·exact h.no.elim
  ·rename_i x y h1;split at h
   ·rename_i k i k2 j hx hy;have:=h.ok;subst this;obtain⟨v1,e1,d1⟩:=aJ E hg hx;obtain⟨v2,e2,d2⟩:=aJ E hg hy;rw[dH d1]at e1;rw[dH d2]at e2;have har:ar= #[x,y]:=by simpa using congrArg List.toArray h1
    subst har;exact⟨_,NZ e1 e2,by unfold Den;rfl⟩
   ·exact h.no.elim
  ·exact h.no.elim
 case convert s d x=>
  unfold sM at h;simp only at h;split at h
  ·rename_i z k z2 k2 i hs hdd hx;have:=h.ok;subst this;obtain⟨v1,h1,d1⟩:=aJ E hg hx;rw[dH d1]at h1;refine⟨_,?_,by unfold Den;rfl⟩;have hr:=run_convert_int (P:=P) w s d k2 i (MP hti hs) (by rw[Ei hti hdd];simp[Program.intKind,Ei hti hdd]);simp only[execOp,h1,Sem.run_bind,hr,Result.andThen_ok,Sem.run_pure,Program.intKind,Ei hti hdd]
  ·exact h.no.elim
 case lookup t x y ok=>
  cases ok with
  |true=>
   unfold sM at h;simp only at h;split at h
   ·rename_i u q i hlk hx hy;obtain⟨h3,k,e,h4,h5,inf,h6,h7⟩:=C9 hti hlk;obtain⟨v1,e1,d1⟩:=aJ E hg hx;obtain⟨v2,e2,d2⟩:=aJ E hg hy;split at h
    ·rename_i u' kv hm;cases hu:qz u u' with
     |false=>rw[hu]at h;exact h.no.elim
     |true=>
      rw[hu]at h;have:=cB hu;subst this;simp only[cond_true]at h;obtain⟨_,b,es,cl,q1,q2,q3⟩:=DN H hm;unfold Den at d1;obtain⟨s0,k1,k2⟩:=Jo (cx:=cx) (β:=β) h3 (dI (dflt u) kv i);rw[dH d2]at e2;split at h
      ·rename_i s1 hs;rw[hs]at k1;injection k1 with k1
       subst k1;have:=h.ok;subst this;exact⟨_,zy (e1.trans (d1.1.trans q1)) e2 h4 h5 h6 h7 q2 q3,by unfold Den;exact⟨[_,_],rfl,by unfold au;exact⟨_,_,rfl,k2,au.one (by unfold Den;rfl)⟩⟩⟩
      ·rename_i s1 s2 hs;rw[hs]at k1;injection k1 with k1
       subst k1;have:=h.ok;subst this;exact⟨_,zy (e1.trans (d1.1.trans q1)) e2 h4 h5 h6 h7 q2 q3,by unfold Den;exact⟨[_,_],rfl,by unfold au;exact⟨_,_,rfl,k2,au.one (by unfold Den;rfl)⟩⟩⟩
      ·exact h.no.elim
    ·exact h.no.elim
   ·exact h.no.elim
  |false=>
   unfold sM at h;simp only at h;split at h
   ·rename_i u q i hlk hx hy;obtain⟨h3,k,e,h4,h5,inf,h6,h7⟩:=C9 hti hlk;obtain⟨v1,e1,d1⟩:=aJ E hg hx;obtain⟨v2,e2,d2⟩:=aJ E hg hy;split at h
    ·rename_i u' kv hm;cases hu:qz u u' with
     |false=>rw[hu]at h;exact h.no.elim
     |true=>
      rw[hu]at h;have:=cB hu;subst this;simp only[cond_true]at h;obtain⟨_,b,es,cl,q1,q2,q3⟩:=DN H hm;unfold Den at d1;obtain⟨s0,k1,k2⟩:=Jo (cx:=cx) (β:=β) h3 (dI (dflt u) kv i);rw[dH d2]at e2;split at h
      ·rename_i s1 hs;rw[hs]at k1;injection k1 with k1
       subst k1;have:=h.ok;subst this;exact⟨_,CF (e1.trans (d1.1.trans q1)) e2 h4 h5 h6 h7 q2 q3,k2⟩
      ·rename_i s1 s2 hs;rw[hs]at k1;injection k1 with k1
       subst k1;have:=h.ok;subst this;exact⟨_,CF (e1.trans (d1.1.trans q1)) e2 h4 h5 h6 h7 q2 q3,k2⟩
      ·exact h.no.elim
    ·exact h.no.elim
   ·exact h.no.elim
 case makeFunc f0 ts xs=>
  cases f0
  case func f=>
   unfold sM at h;simp only at h;split at h
   ·rename_i l h1 h2;have:=h.ok;subst this;have hts:ts= #[]:=by simpa using congrArg List.toArray h1
    subst hts;have hd:=vE E hg h2;exact⟨_,N7 (xs:=xs.toList) rfl,by unfold Den;exact⟨_,rfl,hd⟩⟩
   ·exact h.no.elim
  all_goals (unfold sM at h;exact h.no.elim)
 all_goals (unfold sM at h;exact h.no.elim)
end
end Go.Tr
namespace Go.Tr
open Go Go.RowKit
universe u
inductive F2{α γ:Type u}(R:α→γ→Prop):List α→List γ→Prop where
 |nil:F2 R [] []
 |cons {a b l m} (h:R a b) (t:F2 R l m):F2 R (a::l) (b::m)
theorem bC{α:Type u}(l:List (Nat×α))(d t:Nat)(v:α):lk ((d,v)::l) t=if t=d then some v else lk l t:=by
 show(bif Nat.beq t d then some v else lk l t)=_;cases h:Nat.beq t d with
 |true=>rw[if_pos (aU h)];rfl
 |false=>rw[if_neg (fun e=>by subst e;simp at h)];rfl
section
variable {cx:Cx}{β β':Nat→Value}{P:Program}{ti:TI}{rs:List Tok}{fr:List dK}{w w':World}{v:SV}
theorem fF:∀{rs:List Tok} {k:Nat} {K:Tok→List Tok→Prop} {N:Prop},fT rs k K N→(∃x l,K x l∧x.name=k∧rs.Perm (x::l))∨N
 |[],k,K,N,h=>.inr h
 | .bY g t cs::l,k,K,N,h=>by
  unfold fT at h;cases hb:Nat.beq g k with
  |true=>rw[hb]at h;exact .inl ⟨_,l,h,aU hb,List.Perm.refl _⟩
  |false=>
   rw[hb]at h;rcases fF (rs:=l) h with⟨x,l',h1,h2,h3⟩|h1
   ·exact .inl ⟨x,_,h1,h2,(h3.cons _).trans (List.Perm.swap _ _ _)⟩
   ·exact .inr h1
 | .row g t s u xs us::l,k,K,N,h=>by
  unfold fT at h;cases hb:Nat.beq g k with
  |true=>rw[hb]at h;exact .inl ⟨_,l,h,aU hb,List.Perm.refl _⟩
  |false=>
   rw[hb]at h;rcases fF (rs:=l) h with⟨x,l',h1,h2,h3⟩|h1
   ·exact .inl ⟨x,_,h1,h2,(h3.cons _).trans (List.Perm.swap _ _ _)⟩
   ·exact .inr h1
 | .map g u kv::l,k,K,N,h=>by
  unfold fT at h;cases hb:Nat.beq g k with
  |true=>rw[hb]at h;exact .inl ⟨_,l,h,aU hb,List.Perm.refl _⟩
  |false=>
   rw[hb]at h;rcases fF (rs:=l) h with⟨x,l',h1,h2,h3⟩|h1
   ·exact .inl ⟨x,_,h1,h2,(h3.cons _).trans (List.Perm.swap _ _ _)⟩
   ·exact .inr h1
 | .nest g u xs us::l,k,K,N,h=>by
  unfold fT at h;cases hb:Nat.beq g k with
  |true=>rw[hb]at h;exact .inl ⟨_,l,h,aU hb,List.Perm.refl _⟩
  |false=>
   rw[hb]at h;rcases fF (rs:=l) h with⟨x,l',h1,h2,h3⟩|h1
   ·exact .inl ⟨x,_,h1,h2,(h3.cons _).trans (List.Perm.swap _ _ _)⟩
   ·exact .inr h1
 | .dat g t s u xs::l,k,K,N,h=>by
  unfold fT at h;cases hb:Nat.beq g k with
  |true=>rw[hb]at h;exact .inl ⟨_,l,h,aU hb,List.Perm.refl _⟩
  |false=>
   rw[hb]at h;rcases fF (rs:=l) h with⟨x,l',h1,h2,h3⟩|h1
   ·exact .inl ⟨x,_,h1,h2,(h3.cons _).trans (List.Perm.swap _ _ _)⟩
   ·exact .inr h1
theorem qL{k:Nat}{K:TypeId→List SV→List Tok→Prop}(h:pX rs k K):∃t cs l,K t cs l∧rs.Perm (.bY k t cs::l):=by
 rcases fF h with⟨x,l,h1,h2,h3⟩|h1
 ·cases x with
  |bY g t cs=>cases h2;exact⟨t,cs,l,h1,h3⟩
  |row=>exact h1.elim
  |map=>exact h1.elim
  |nest=>exact h1.elim
  |dat=>exact h1.elim
 ·exact h1.elim
theorem eB{k:Nat}{K:TypeId→Nat→(u:U)→List (El u)→List Value→List Tok→Prop}(h:gT rs k K):∃t s u xs us l,K t s u xs us l∧rs.Perm (.row k t s u xs us::l):=by
 rcases fF h with⟨x,l,h1,h2,h3⟩|h1
 ·cases x with
  |row g t s u xs us=>cases h2;exact⟨t,s,u,xs,us,l,h1,h3⟩
  |bY=>exact h1.elim
  |map=>exact h1.elim
  |nest=>exact h1.elim
  |dat=>exact h1.elim
 ·exact h1.elim
theorem xH{k:Nat}{K:(u:U)→List (Int×El u)→List Tok→Prop}(h:A8 rs k K):∃u kv l,K u kv l∧rs.Perm (.map k u kv::l):=by
 rcases fF h with⟨x,l,h1,h2,h3⟩|h1
 ·cases x with
  |map g u kv=>cases h2;exact⟨u,kv,l,h1,h3⟩
  |nest=>exact h1.elim
  |dat=>exact h1.elim
  |bY=>exact h1.elim
  |row=>exact h1.elim
 ·exact h1.elim
theorem C8{k:Nat}{K:(u:U)→List (El u)→List Value→List Tok→Prop}(h:CZ rs k K):∃u xs us l,K u xs us l∧rs.Perm (.nest k u xs us::l):=by
 rcases fF h with⟨x,l,h1,h2,h3⟩|h1
 ·cases x with
  |nest g u xs us=>cases h2;exact⟨u,xs,us,l,h1,h3⟩
  |bY=>exact h1.elim
  |row=>exact h1.elim
  |map=>exact h1.elim
  |dat=>exact h1.elim
 ·exact h1.elim
theorem qM{k:Nat}{K:TypeId→Nat→(u:U)→List (El u)→List Tok→Prop}(h:vK rs k K):∃t s u xs l,K t s u xs l∧rs.Perm (.dat k t s u xs::l):=by
 rcases fF h with⟨x,l,h1,h2,h3⟩|h1
 ·cases x with
  |dat g t s u xs=>cases h2;exact⟨t,s,u,xs,l,h1,h3⟩
  |nest=>exact h1.elim
  |bY=>exact h1.elim
  |row=>exact h1.elim
  |map=>exact h1.elim
 ·exact h1.elim
theorem Inv.iM{w0:World}{F0:List Nat}{rs rs':List Tok}(h:Inv w0 F0 w (rs.map (Tok.res cx β)++fr))(hp:rs.Perm rs'):Inv w0 F0 w (rs'.map (Tok.res cx β)++fr):=
 h.perm ((hp.map _).append_right fr)
theorem Sep.yu:∀{l m:List dK} {G:List Nat},F2 (fun r r'=>∀F,dK.p r w F→dK.p r' w F) l m→Sep w (l++fr) G→Sep w (m++fr) G
 |[],[],G,_,h=>h
 |r::l,r'::m,G,.cons h1 h2,⟨F,G',e,k1,k2,k3⟩=>⟨F,G',e,h1 F k1,Sep.yu h2 k2,k3⟩
theorem Inv.yu{w0:World}{F0:List Nat}{l m:List dK}(h:Inv w0 F0 w (l++fr))(h2:F2 (fun r r'=>∀F,dK.p r w F→dK.p r' w F) l m):Inv w0 F0 w (m++fr):=by
 obtain⟨G,h3,h4⟩:=h.sep;exact⟨h.lK,G,Sep.yu h2 h3,h4⟩
mutual
theorem fD{g:Nat}:∀{v:SV} {r:List Nat},g∈v.names r↔g∈v.names []∨g∈r
 | .ptr _ _,r| .sl _,r| .ep _ _ _ _,r| .mp _,r| .sx _ _ _ _,r=>by simp[SV.names]
 | .agg l,r| .tup l,r| .fn _ l,r=>by simp only[SV.names];exact qF
 | .gd _ _ v,r=>by simp only[SV.names];exact fD
 | .int _ _,r| .bool _,r| .raw _,r| .rsl _ _,r| .rp _ _,r| .un,r| .nh _ _ _ _,r| .np _ _ _ _ _ _ _,r| .nn _ _,r=>by simp[SV.names]
theorem qF{g:Nat}:∀{l:List SV} {r:List Nat},g∈fZ l r↔g∈fZ l []∨g∈r
 |[],r=>by simp[fZ]
 |v::l,r=>by
  simp only[fZ];rw[fD (v:=v) (r:=fZ l r),fD (v:=v) (r:=fZ l []),qF (l:=l) (r:=r)];constructor
  ·rintro(h|h|h)<;>simp[h]
  ·rintro((h|h)|h)<;>simp[h]
end
mutual
theorem Den.congr:∀{v:SV} {x:Value},Den cx β v x→(∀g∈v.names [],β' g=β g)→Den cx β' v x
 | .ptr g o,x,h,e=>by
  unfold Den at h ⊢;rw[e g (by simp[SV.names])];exact h
 | .sl g,x,h,e=>by
  unfold Den at h ⊢;rw[e g (by simp[SV.names])];exact h
 | .ep g s i o,x,h,e=>by
  unfold Den at h ⊢;rw[e g (by simp[SV.names])];exact h
 | .mp g,x,h,e=>by
  unfold Den at h ⊢;rw[e g (by simp[SV.names])];exact h
 | .sx g _ _ _,x,h,e=>by
  unfold Den at h ⊢;rw[e g (by simp[SV.names])];exact h
 | .agg l,x,h,e| .tup l,x,h,e| .fn _ l,x,h,e=>by
  unfold Den at h ⊢;obtain⟨vs,h1,h2⟩:=h;exact⟨vs,h1,h2.congr e⟩
 | .gd _ _ v,x,h,e=>by unfold Den at h;exact h.elim
 | .int _ _,x,h,e| .bool _,x,h,e| .raw _,x,h,e| .rsl _ _,x,h,e| .rp _ _,x,h,e| .un,x,h,e| .nh _ _ _ _,x,h,e| .np _ _ _ _ _ _ _,x,h,e| .nn _ _,x,h,e=>by unfold Den at h ⊢;exact h
theorem au.congr:∀{l:List SV} {xs:List Value},au cx β l xs→(∀g∈fZ l [],β' g=β g)→au cx β' l xs
 |[],xs,h,e=>by unfold au at h ⊢;exact h
 |v::l,xs,h,e=>by
  unfold au at h ⊢;obtain⟨x,xs',h1,h2,h3⟩:=h;refine⟨x,xs',h1,h2.congr fun g hg=>e g ?_,h3.congr fun g hg=>e g ?_⟩
  ·simp only[fZ];rw[fD];exact .inl hg
  ·simp only[fZ];rw[fD];exact .inr hg
end
theorem lX{st:Bool}{σ:List (Nat×Nat)}{g:Nat}{K:Nat→Prop}(h:xZ st σ g K):∃g',K g'∧(lk σ g=some g'∨(st=false∧lk σ g=none∧g'=g)):=by
 unfold xZ at h;split at h
 ·rename_i g' hg;exact⟨g',h,.inl hg⟩
 ·rename_i hg;cases st with
  |true=>exact h.elim
  |false=>exact⟨g,h,.inr ⟨rfl,hg,rfl⟩⟩
def JD(st:Bool)(σ:List (Nat×Nat))(β β':Nat→Value):Prop:=∀g g',(lk σ g=some g'∨(st=false∧lk σ g=none∧g'=g))→β' g'=β g
def P5(st:Bool)(σ:List (Nat×Nat))(v v':SV):Prop:=∀(cx:Cx) β β',JD st σ β β'→∀x,(Den cx β v x↔Den cx β' v' x)
mutual
theorem xq{st:Bool}{σ:List (Nat×Nat)}:∀{v:SV} {K:SV→Prop},I9 st σ v K→∃v',K v'∧P5 st σ v v'
 | .ptr g o,K,h=>by
  have h:xZ st σ g (fun h=>K (.ptr h o)):=h;obtain⟨g',h1,h2⟩:=lX h;exact⟨_,h1,fun cx β β' hb x=>by unfold Den;rw[hb g g' h2]⟩
 | .sl g,K,h=>by
  have h:xZ st σ g (fun h=>K (.sl h)):=h;obtain⟨g',h1,h2⟩:=lX h;exact⟨_,h1,fun cx β β' hb x=>by unfold Den;rw[hb g g' h2]⟩
 | .ep g s i o,K,h=>by
  have h:xZ st σ g (fun h=>K (.ep h s i o)):=h;obtain⟨g',h1,h2⟩:=lX h;exact⟨_,h1,fun cx β β' hb x=>by unfold Den;rw[hb g g' h2]⟩
 | .mp g,K,h=>by
  have h:xZ st σ g (fun h=>K (.mp h)):=h;obtain⟨g',h1,h2⟩:=lX h;exact⟨_,h1,fun cx β β' hb x=>by unfold Den;rw[hb g g' h2]⟩
 | .sx g s lo n,K,h=>by
  have h:xZ st σ g (fun h=>K (.sx h s lo n)):=h;obtain⟨g',h1,h2⟩:=lX h;exact⟨_,h1,fun cx β β' hb x=>by unfold Den;rw[hb g g' h2]⟩
 | .agg l,K,h=>by
  have h:D9 st σ l (fun l'=>K (.agg l')):=h;obtain⟨l',h1,h2⟩:=pW h;exact⟨_,h1,fun cx β β' hb x=>by unfold Den;exact⟨fun⟨vs,e,k⟩=>⟨vs,e,(h2 cx β β' hb vs).1 k⟩,fun⟨vs,e,k⟩=>⟨vs,e,(h2 cx β β' hb vs).2 k⟩⟩⟩
 | .tup l,K,h=>by
  have h:D9 st σ l (fun l'=>K (.tup l')):=h;obtain⟨l',h1,h2⟩:=pW h;exact⟨_,h1,fun cx β β' hb x=>by unfold Den;exact⟨fun⟨vs,e,k⟩=>⟨vs,e,(h2 cx β β' hb vs).1 k⟩,fun⟨vs,e,k⟩=>⟨vs,e,(h2 cx β β' hb vs).2 k⟩⟩⟩
 | .fn f l,K,h=>by
  have h:D9 st σ l (fun l'=>K (.fn f l')):=h;obtain⟨l',h1,h2⟩:=pW h;exact⟨_,h1,fun cx β β' hb x=>by unfold Den;exact⟨fun⟨vs,e,k⟩=>⟨vs,e,(h2 cx β β' hb vs).1 k⟩,fun⟨vs,e,k⟩=>⟨vs,e,(h2 cx β β' hb vs).2 k⟩⟩⟩
 | .int _ _,K,h| .bool _,K,h| .raw _,K,h| .rsl _ _,K,h| .rp _ _,K,h| .un,K,h| .nh _ _ _ _,K,h| .np _ _ _ _ _ _ _,K,h| .nn _ _,K,h=>by
  exact⟨_,h,fun cx β β' hb x=>by unfold Den;exact Iff.rfl⟩
 | .gd _ _ _,K,h=>by exact False.elim h
theorem pW{st:Bool}{σ:List (Nat×Nat)}:∀{l:List SV} {K:List SV→Prop},D9 st σ l K→∃l',K l'∧∀(cx:Cx) β β',JD st σ β β'→∀xs,(au cx β l xs↔au cx β' l' xs)
 |[],K,h=>by
  have h:K []:=h;exact⟨[],h,fun cx β β' hb xs=>by unfold au;exact Iff.rfl⟩
 |v::l,K,h=>by
  have h:I9 st σ v fun v'=>D9 st σ l fun l'=>K (v'::l'):=h
  obtain⟨v',h1,h2⟩:=xq h;obtain⟨l',h3,h4⟩:=pW h1;refine⟨_,h3,fun cx β β' hb xs=> ?_⟩;unfold au;exact⟨fun⟨x,xs',e,k1,k2⟩=>⟨x,xs',e,(h2 cx β β' hb x).1 k1,(h4 cx β β' hb xs').1 k2⟩,fun⟨x,xs',e,k1,k2⟩=>⟨x,xs',e,(h2 cx β β' hb x).2 k1,(h4 cx β β' hb xs').2 k2⟩⟩
end
theorem KO{st:Bool}{σ:List (Nat×Nat)}{t:Tok}{K:Tok→Prop}(h:Ea st σ t K):∃t',K t'∧∀(cx:Cx) β β',JD st σ β β'→∀w F,(((Tok.res cx β t).p w F)↔((Tok.res cx β' t').p w F)):=by
 cases t with
 |bY g t cs=>
  unfold Ea at h;obtain⟨g',h1,h2⟩:=lX h;obtain⟨l',h3,h4⟩:=pW h1;refine⟨_,h3,fun cx β β' hb w F=> ?_⟩;show(∃b us,β g=_∧au cx β cs us∧_∧_)↔(∃b us,β' g'=_∧au cx β' l' us∧_∧_);rw[hb g g' h2];exact⟨fun⟨b,us,k1,k2,k3⟩=>⟨b,us,k1,(h4 cx β β' hb us).1 k2,k3⟩,fun⟨b,us,k1,k2,k3⟩=>⟨b,us,k1,(h4 cx β β' hb us).2 k2,k3⟩⟩
 |row g t s u xs us=>
  unfold Ea at h;obtain⟨g',h1,h2⟩:=lX h;refine⟨_,h1,fun cx β β' hb w F=> ?_⟩;show(_∧(uX (β g) _ _ _ _ _).p w F)↔(_∧(uX (β' g') _ _ _ _ _).p w F);rw[hb g g' h2]
 |map g u kv=>
  unfold Ea at h;obtain⟨g',h1,h2⟩:=lX h;refine⟨_,h1,fun cx β β' hb w F=> ?_⟩;show(_∧∃r es cl,β g=_∧_)↔(_∧∃r es cl,β' g'=_∧_);rw[hb g g' h2]
 |nest g u xs us=>
  unfold Ea at h;obtain⟨g',h1,h2⟩:=lX h;exact⟨_,h1,fun cx β β' hb w F=>Iff.rfl⟩
 |dat g t s u xs=>
  unfold Ea at h;obtain⟨g',h1,h2⟩:=lX h;refine⟨_,h1,fun cx β β' hb w F=> ?_⟩;show(_∧∃us,au cx β _ us∧_∧(uX (β g) _ _ _ _ _).p w F)↔(_∧∃us,au cx β' _ us∧_∧(uX (β' g') _ _ _ _ _).p w F);rw[hb g g' h2];exact⟨fun⟨k1,us,k2,k3⟩=>⟨k1,us,k2.BX,k3⟩,fun⟨k1,us,k2,k3⟩=>⟨k1,us,k2.BX,k3⟩⟩
theorem mQ{st:Bool}{σ:List (Nat×Nat)}:∀{l:List Tok} {K:List Tok→Prop},kH st σ l K→∃l',K l'∧l'.length=l.length∧∀(cx:Cx) β β',JD st σ β β'→∀w,F2 (fun r r'=>∀F,(dK.p r w F↔dK.p r' w F)) (l.map (Tok.res cx β)) (l'.map (Tok.res cx β'))
 |[],K,h=>by
  unfold kH at h;exact⟨[],h,rfl,fun cx β β' hb w=>.nil⟩
 |t::l,K,h=>by
  unfold kH at h;obtain⟨v',h1,h2⟩:=KO h;obtain⟨l',h3,h4,h5⟩:=mQ h1;exact⟨_,h3,by simp[h4],fun cx β β' hb w=>.cons (h2 cx β β' hb w) (h5 cx β β' hb w)⟩
theorem iH{α γ:Type u}{R S:α→γ→Prop}(h:∀a b,R a b→S a b):∀{l:List α} {m:List γ},F2 R l m→F2 S l m
 |[],[],_=>.nil
 |_::_,_::_,.cons h1 h2=>.cons (h _ _ h1) (iH h h2)
theorem kJ{α γ:Type u}{R:α→γ→Prop}:∀{l:List α} {m:List γ},F2 R l m→F2 (fun b a=>R a b) m l
 |[],[],_=>.nil
 |_::_,_::_,.cons h1 h2=>.cons h1 (kJ h2)
theorem Inv.kV{w0:World}{F0:List Nat}{us vs:List Value}{ds es:List D}{R:List dK}(h:Inv w0 F0 w (dL us ds::dL vs es::R)):Inv w0 F0 w (dL (us++vs) (ds++es)::R):=by
 obtain⟨F1,F2,⟨h1,h2⟩,⟨h3,h4⟩,h5,h6⟩:=h.take2;exact h6 _ (F1++F2) (fun b hb=>by simpa using hb) ⟨TN.append.2 ⟨F1,F2,us,vs,rfl,rfl,h1,h3⟩,Own.join h2 h4 h5⟩
theorem Inv.swap{w0:World}{F0:List Nat}{r s:dK}{R:List dK}(h:Inv w0 F0 w (r::s::R)):Inv w0 F0 w (s::r::R):=h.perm (List.Perm.swap _ _ _)
theorem H9{v:Value}{t:TypeId}{s n:Nat}{ds:List D}{pre:List Value}{F:List Nat}(h:(uX v t s n ds pre).p w F):(Gr v t s n ds).p w F:=by
 obtain⟨bs,us,h1,h2,_⟩:=h;exact⟨bs,us,h1,h2⟩
theorem Mc{v:Value}{t:TypeId}{s n:Nat}{ds:List D}{F:List Nat}(h:(Gr v t s n ds).p w F):(uX v t s n ds []).p w F:=by
 obtain⟨bs,us,h1,h2⟩:=h;exact⟨bs,us,h1,h2,nP⟩
theorem Jc{w0:World}{F0:List Nat}{k:Nat}{t:TypeId}{s:Nat}{u:U}{xs:List (El u)}{us:List Value}{R:List dK}(h:Inv w0 F0 w (Tok.res cx β (.row k t s u xs us)::R)):∃A c,β k=.slice A xs.length c∧Inv w0 F0 w (Dat (β k) xs.length (xs.flatMap (enc u))::R):=by
 obtain⟨F,h1,h2,h3⟩:=h.take1;have hs:u.size=s:=h1.1;have h4:Inv w0 F0 w (Gr (β k) t s xs.length (xs.flatMap (enc u))::R):=h2 _ F (fun _ h=>h) (H9 h1.2);obtain⟨A,c,h5,h6⟩:=h4.Ma (by rw[fq,hs]);exact⟨A,c,h5,h5▸h6⟩
theorem tF:∀(u:U) {cs:List SV} {rs:List Tok} {K:El u→List SV→List Tok→Prop},mkK u cs rs K→∃x l rs',K x l rs'∧(∀t∈rs',t∈rs)∧
  ∀(cx:Cx) (β:Nat→Value) (w w0:World) (F0:List Nat) (us:List Value) (R:List dK),au cx β cs us→Inv w0 F0 w (rs.map (Tok.res cx β)++R)→
  ∃u1 u2,us=u1++u2∧u1.length=u.size∧au cx β l u2∧Inv w0 F0 w (dL u1 (enc u x)::(rs'.map (Tok.res cx β)++R))
 | .int k,[],rs,K,h| .bool,[],rs,K,h| .str,[],rs,K,h| .any,[],rs,K,h| .sl _,[],rs,K,h=>by unfold mkK at h;exact h.elim
 | .int k,c::l,rs,K,h=>by
  unfold mkK at h;split at h
  ·rename_i k' i;cases hb:(k'==k)with
   |false=>rw[hb]at h;exact h.elim
   |true=>
    rw[hb]at h;rw[beq_iff_eq]at hb;subst hb;refine⟨i,l,rs,h,fun _ h=>h,fun cx β w w0 F0 us R hd hI=> ?_⟩;unfold au at hd;obtain⟨v,vs',rfl,h1,h2⟩:=hd;rw[dH h1];exact⟨[_],vs',rfl,rfl,h2,(hI.qE).DT rfl⟩
  ·exact h.elim
 | .bool,c::l,rs,K,h=>by
  unfold mkK at h;split at h
  ·rename_i b;refine⟨b,l,rs,h,fun _ h=>h,fun cx β w w0 F0 us R hd hI=> ?_⟩;unfold au at hd;obtain⟨v,vs',rfl,h1,h2⟩:=hd;rw[iE h1];exact⟨[_],vs',rfl,rfl,h2,(hI.qE).DT rfl⟩
  ·exact h.elim
 | .str,c::l,rs,K,h=>by
  unfold mkK at h;split at h
  ·rename_i x;refine⟨x,l,rs,h,fun _ h=>h,fun cx β w w0 F0 us R hd hI=> ?_⟩;unfold au at hd;obtain⟨v,vs',rfl,h1,h2⟩:=hd;unfold Den at h1;obtain⟨rfl,h3⟩:=h1;exact⟨[_],vs',rfl,rfl,h2,(hI.qE).DT h3⟩
  ·exact h.elim
 | .any,c::l,rs,K,h=>by
  unfold mkK at h;split at h
  ·rename_i x;refine⟨x,l,rs,h,fun _ h=>h,fun cx β w w0 F0 us R hd hI=> ?_⟩;unfold au at hd;obtain⟨v,vs',rfl,h1,h2⟩:=hd;unfold Den at h1;obtain⟨rfl,h3⟩:=h1;exact⟨[_],vs',rfl,rfl,h2,(hI.qE).DT h3⟩
  ·rename_i k i;refine⟨.int k i,l,rs,h,fun _ h=>h,fun cx β w w0 F0 us R hd hI=> ?_⟩;unfold au at hd;obtain⟨v,vs',rfl,h1,h2⟩:=hd;rw[dH h1];exact⟨[_],vs',rfl,rfl,h2,(hI.qE).DT rfl⟩
  ·rename_i hdr;refine⟨hdr,l,rs,h,fun _ h=>h,fun cx β w w0 F0 us R hd hI=> ?_⟩;unfold au at hd;obtain⟨v,vs',rfl,h1,h2⟩:=hd;unfold Den at h1;obtain⟨rfl,A,c,e,_⟩:=h1;exact⟨[_],vs',rfl,rfl,h2,(hI.qE).DT (by rw[e];rfl)⟩
  ·exact h.elim
 | .pair a b,cs,rs,K,h=>by
  unfold mkK at h;obtain⟨x,l,rs',h1,hs1,h2⟩:=tF a h;obtain⟨y,l',rs'',k1,hs2,k2⟩:=tF b h1;refine⟨(x,y),l',rs'',k1,fun t ht=>hs1 t (hs2 t ht),fun cx β w w0 F0 us R hd hI=> ?_⟩;obtain⟨u1,u2,rfl,e1,e2,e3⟩:=h2 cx β w w0 F0 us R hd hI;obtain⟨u3,u4,rfl,q1,q2,q3⟩:=k2 cx β w w0 F0 u2 (dL u1 (enc a x)::R) e2 (e3.perm (List.perm_middle.symm));refine⟨u1++u3,u4,by simp,by simp[U.size,e1,q1],q2,?_⟩
  have k5:Inv w0 F0 w (dL u1 (enc a x)::dL u3 (enc b y)::(rs''.map (Tok.res cx β)++R)):=q3.perm (by
   refine(List.Perm.cons _ List.perm_middle).trans (List.Perm.swap _ _ _))
  exact k5.kV
 | .sl e,c::l,rs,K,h=>by
  unfold mkK at h;split at h
  ·rename_i k;obtain⟨t,s,u,xs,_,rs',h3,h4⟩:=eB h;split at h3
   ·rename_i hu;cases hb:Nat.beq s e.size with
    |false=>rw[hb]at h3;exact h3.elim
    |true=>
     rw[hb]at h3;have hue:=cB hu;subst hue;refine⟨_,l,rs',h3,fun t ht=>h4.mem_iff.2 (by simp[ht]),fun cx β w w0 F0 us R hd hI=> ?_⟩;unfold au at hd;obtain⟨v,vs',rfl,h1,h2⟩:=hd;unfold Den at h1;obtain⟨h1,_⟩:=h1;subst h1;obtain⟨A,c,h5,h6⟩:=Jc (hI.iM h4);exact⟨[_],vs',rfl,rfl,h2,(Inv.swap h6.qE).Gg⟩
   ·exact h3.elim
  ·refine⟨_,l,rs,h,fun _ h=>h,fun cx β w w0 F0 us R hd hI=> ?_⟩;unfold au at hd;obtain⟨v,vs',rfl,h1,h2⟩:=hd;unfold Den at h1;obtain⟨rfl,h3⟩:=h1;exact⟨[_],vs',rfl,rfl,h2,(hI.qE.vB).Gg⟩
  ·exact h.elim
 | .tree e,l,rs,K,h=>by
  unfold mkK at h;obtain⟨x,l1,rs1,h1,hs1,h2⟩:=tF e h;split at h1
  ·rename_i c l2;split at h1
   ·rename_i k;obtain⟨t,s,u,xs,_,rs',h3,h4⟩:=eB h1;split at h3
    ·rename_i hu;cases hb:Nat.beq s (e.size+1)with
     |false=>rw[hb]at h3;exact h3.elim
     |true=>
      rw[hb]at h3;have hue:=cB hu;subst hue;refine⟨_,l2,rs',h3,fun t ht=>hs1 t (h4.mem_iff.2 (by simp[ht])),fun cx β w w0 F0 us R hd hI=> ?_⟩;obtain⟨u1,u2,rfl,e1,e2,e3⟩:=h2 cx β w w0 F0 us R hd hI;unfold au at e2;obtain⟨v,vs',rfl,d1,d2⟩:=e2;unfold Den at d1;obtain⟨d1,_⟩:=d1;subst d1;have e3':Inv w0 F0 w (rs1.map (Tok.res cx β)++(dL u1 (enc e x)::R)):=e3.perm List.perm_middle.symm;obtain⟨A,c,h5,h6⟩:=Jc (e3'.iM h4);refine⟨u1++[β k],vs',by simp,by simp[U.size,e1],d2,?_⟩;have k5:=(Inv.swap h6.qE).Gg;rw[iF]
      refine Inv.kV (k5.perm ?_);exact(List.Perm.cons _ List.perm_middle).trans (List.Perm.swap _ _ _)
    ·exact h3.elim
   ·refine⟨_,l2,rs1,h1,hs1,fun cx β w w0 F0 us R hd hI=> ?_⟩;obtain⟨u1,u2,rfl,e1,e2,e3⟩:=h2 cx β w w0 F0 us R hd hI;unfold au at e2;obtain⟨v,vs',rfl,d1,d2⟩:=e2;unfold Den at d1;obtain⟨rfl,_⟩:=d1;have e3':Inv w0 F0 w (rs1.map (Tok.res cx β)++(dL u1 (enc e x)::R)):=e3.perm List.perm_middle.symm;refine⟨u1++[.slice none 0 0],vs',by simp,by simp[U.size,e1],d2,?_⟩;have k5:=(e3'.qE.vB).Gg;rw[iF];refine Inv.kV (k5.perm ?_);exact(List.Perm.cons _ List.perm_middle).trans (List.Perm.swap _ _ _)
   ·exact h1.elim
  ·exact h1.elim
theorem EY{u:U}:∀{css:List (List SV)} {rs:List Tok} {K:List (El u)→List Tok→Prop},Gf u css rs K→∃xs rs',K xs rs'∧(∀t∈rs',t∈rs)∧xs.length=css.length∧
  ∀(cx:Cx) (β:Nat→Value) (w w0:World) (F0:List Nat) (uss:List (List Value)) (R:List dK),F2 (fun cs us=>au cx β cs us) css uss→Inv w0 F0 w (rs.map (Tok.res cx β)++R)→
  (∀us∈uss,us.length=u.size)∧Inv w0 F0 w (dL uss.flatten (xs.flatMap (enc u))::(rs'.map (Tok.res cx β)++R))
 |[],rs,K,h=>⟨[],rs,h,fun _ h=>h,rfl,fun cx β w w0 F0 uss R hd hI=>by cases hd;exact⟨by simp,hI.qE⟩⟩
 |c::cs,rs,K,h=>by
  unfold Gf at h;obtain⟨x,l,rs',h1,hs1,h2⟩:=tF u h;split at h1
  ·obtain⟨xs,rs'',k1,hs2,k2,k3⟩:=EY h1;refine⟨x::xs,rs'',k1,fun t ht=>hs1 t (hs2 t ht),by simp[k2],fun cx β w w0 F0 uss R hd hI=> ?_⟩;cases hd with
   |cons hd hds=>
    rename_i us uss;obtain⟨u1,u2,rfl,e1,e2,e3⟩:=h2 cx β w w0 F0 us R hd hI;unfold au at e2;subst e2;obtain⟨q1,q2⟩:=k3 cx β w w0 F0 uss (dL u1 (enc u x)::R) hds (e3.perm (List.perm_middle.symm));refine⟨by simpa[e1]using q1,?_⟩
    have k5:Inv w0 F0 w (dL u1 (enc u x)::dL uss.flatten (xs.flatMap (enc u))::(rs''.map (Tok.res cx β)++R)):=q2.perm (by
     refine(List.Perm.cons _ List.perm_middle).trans (List.Perm.swap _ _ _))
    simpa using k5.kV
  ·exact h1.elim
end
end Go.Tr
namespace Go.Tr
open Go Go.RowKit
universe u
section
variable {cx:Cx}{β β':Nat→Value}{P:Program}{ti:TI}{n:Nat}{a:Act}{env:Ev}{rs:List Tok}{fr:List dK}{w w':World}{g:Option (Nat×Bool)}{v:SV}
theorem tJ{d:Nat}:∀{l:List Nat},AA d l=true→∀g∈l,g % 1000000≠d
 |[],_,g,hg=>by simp at hg
 |x::l,h,g,hg=>by
  unfold AA at h;cases hb:Nat.beq (x % 1000000) d with
  |true=>rw[hb]at h;cases h
  |false=>
   rw[hb]at h;rcases List.mem_cons.1 hg with rfl|hg
   ·intro e;rw[e]at hb;simp at hb
   ·exact tJ h g hg
theorem sG{g:Nat}:∀{t:Tok} {r:List Nat},g∈t.names r↔g∈t.names []∨g∈r
 | .bY h t cs,r=>by
  simp only[Tok.names,List.mem_cons];rw[qF];constructor
  ·rintro(h|h|h)<;>simp[h]
  ·rintro((h|h)|h)<;>simp[h]
 | .row h t s u xs us,r=>by simp[Tok.names]
 | .map h u kv,r=>by simp[Tok.names]
 | .nest h u xs us,r=>by simp[Tok.names]
 | .dat h t s u xs,r=>by simp[Tok.names]
theorem gU{g:Nat}:∀{l:List Tok} {r:List Nat},g∈dU l r↔(∃t∈l,g∈t.names [])∨g∈r
 |[],r=>by simp[dU]
 |t::l,r=>by
  simp only[dU];rw[sG,gU (l:=l)];simp only[List.mem_cons,exists_eq_or_imp];constructor
  ·rintro(h|h|h)<;>simp[h]
  ·rintro((h|h)|h)<;>simp[h]
theorem iR{g:Nat}:∀{l:Ev} {r:List Nat},g∈kX l r↔(∃t∈l,g∈t.2.names [])∨g∈r
 |[],r=>by simp[kX]
 |(t,v)::l,r=>by
  simp only[kX];rw[fD,iR (l:=l)];simp only[List.mem_cons,exists_eq_or_imp];constructor
  ·rintro(h|h|h)<;>simp[h]
  ·rintro((h|h)|h)<;>simp[h]
def vM(d:Nat)(β β':Nat→Value):Prop:=∀g,g % 1000000≠d→β' g=β g
theorem kN{d:Nat}(h:bU d env rs=true):∀t∈rs,∀g∈t.names [],g % 1000000≠d:=fun t ht g hg=>
 tJ h g (iR.2 (.inr (gU.2 (.inl ⟨t,ht,hg⟩))))
theorem sV{d:Nat}(h:bU d env rs=true):∀t s,lk env t=some s→∀g∈s.names [],g % 1000000≠d:=fun t s hl g hg=>
 tJ h g (iR.2 (.inl ⟨_,tC hl,hg⟩))
theorem zF{t:Tok}(h:∀g∈t.names [],β' g=β g){F:List Nat}(hp:(Tok.res cx β t).p w F):(Tok.res cx β' t).p w F:=by
 cases t with
 |bY g t cs=>
  obtain⟨b,us,h1,h2,h3⟩:=hp;refine⟨b,us,?_,h2.congr fun x hx=>h x ?_,h3⟩
  ·rw[h g (by simp[Tok.names])];exact h1
  ·simp only[Tok.names,List.mem_cons];exact .inr hx
 |row g t s u xs us=>
  refine⟨hp.1,?_⟩;rw[h g (by simp[Tok.names])];exact hp.2
 |map g u kv=>
  refine⟨hp.1,?_⟩;rw[h g (by simp[Tok.names])];exact hp.2
 |nest g u xs us=>exact hp
 |dat g t s u xs=>
  obtain⟨h0,us,h1,h2,h3⟩:=hp;refine⟨h0,us,h1.BX,h2,?_⟩;rw[h g (by simp[Tok.names])];exact h3
theorem Hz{f k:Tok→dK}:∀{l:List Tok},(∀t∈l,∀F,(f t).p w F→(k t).p w F)→F2 (fun r r'=>∀F,dK.p r w F→dK.p r' w F) (l.map f) (l.map k)
 |[],_=>.nil
 |t::l,h=>.cons (h t (by simp)) (Hz fun t ht=>h t (by simp[ht]))
theorem Inv.beta{w0:World}{F0:List Nat}(h:Inv w0 F0 w (rs.map (Tok.res cx β)++fr))(hb:∀t∈rs,∀g∈t.names [],β' g=β g):Inv w0 F0 w (rs.map (Tok.res cx β')++fr):=
 h.yu (Hz fun t ht F hp=>zF (hb t ht) hp)
def up(β:Nat→Value)(d:Nat)(x:Value):Nat→Value:=fun g=>if g=d then x else β g
theorem fu(d:Nat)(x:Value):up β d x d=x:=by simp[up]
theorem qN{d:Nat}(hd:d<1000000)(x:Value):vM d β (up β d x):=fun g hg=>by
 have:g≠d:=fun e=>hg (by rw[e];exact Nat.mod_eq_of_lt hd)
 simp[up,this]
theorem vv{s:SV}{x:Value}(hb:BA s=true)(h:Den cx β s x):x.oneCell'=true:=by
 cases s<;>first|cases hb|skip
 all_goals unfold Den at h
 ·subst h;rfl
 ·subst h;rfl
 ·rw[h.1];exact h.2
 ·obtain⟨A,c,rfl⟩:=h.slice;rfl
 ·obtain⟨b,o,rfl,_⟩:=h;rfl
 ·obtain⟨b,_,rfl⟩:=h;rfl
 ·obtain⟨_,A,n,c,rfl⟩:=h;rfl
 ·obtain⟨b,m,c,_,_,rfl⟩:=h;rfl
 ·obtain⟨vs,rfl,_⟩:=h;rfl
 ·obtain⟨rfl,A,c,rfl,_⟩:=h;rfl
 ·obtain⟨b,o,c,_,rfl⟩:=h;rfl
 ·obtain⟨_,r,rfl⟩:=h;rfl
 ·obtain⟨_,A,n,c,rfl⟩:=h;rfl
theorem vw:∀{l:List SV} {us:List Value},zP l=true→au cx β l us→us.all (·.oneCell')=true
 |[],us,_,h=>by unfold au at h;subst h;rfl
 |s::l,us,hb,h=>by
  unfold au at h;obtain⟨v,vs',rfl,h1,h2⟩:=h;unfold zP at hb;rw[Bool.and_eq_true]at hb;rw[List.all_cons,vv hb.1 h1,vw hb.2 h2];rfl
def Lm(P:Program)(cx:Cx)(β:Nat→Value)(fr:List dK)(a:Act)(w:World)(d:Nat)(o:Oper)(v:SV)(rs':List Tok):Prop:=
 (∃x w' β',(execOp a.eval o).run P w=.ok (.value x) w'∧vM d β β'∧Den cx β' v x∧Inv cx.w0 cx.F0 w' (rs'.map (Tok.res cx β')++fr))∨
 (∃f args,(execOp a.eval o).run P w=.ok (.enter f args) w∧Calls P f args w fun e w'=>∃x β',e=.returned x∧vM d β β'∧Den cx β' v x∧Inv cx.w0 cx.F0 w' (rs'.map (Tok.res cx β')++fr))
theorem E5{d:Nat}{t:TypeId}{cs:List SV}{us:List Value}(hd:d<1000000)(hf:bU d env rs=true)(hH:Inv cx.w0 cx.F0 w (rs.map (Tok.res cx β)++fr))(hc:∀g∈fZ cs [],g % 1000000≠d)(hu:au cx β cs us)(h1:us.all (·.oneCell')=true):
  vM d β (up β d (.pointer (some ⟨w.heap.size,0,none⟩)))∧Den cx (up β d (.pointer (some ⟨w.heap.size,0,none⟩))) (.ptr d 0) (.pointer (some ⟨w.heap.size,0,none⟩))∧
   Inv cx.w0 cx.F0 (w.alloc (.cells us.toArray t)) ((Tok.bY d t cs::rs).map (Tok.res cx (up β d (.pointer (some ⟨w.heap.size,0,none⟩))))++fr):=by
 have hA:=qN (β:=β) hd (.pointer (some ⟨w.heap.size,0,none⟩));refine⟨hA,by unfold Den;exact⟨_,fu _ _,rfl⟩,?_⟩;have h2:=(hH.beta (β':=up β d (.pointer (some ⟨w.heap.size,0,none⟩))) fun t ht g hg=>hA g (kN hf t ht g hg)).alloc us t;exact h2.weak fun F hp=>⟨F,fun _ h=>h,w.heap.size,us,fu _ _,hu.congr fun g hg=>hA g (hc g hg),h1,hp⟩
theorem xW:∀{l:List SV},l.all tY=true→fZ l []=[]
 |[],_=>rfl
 |s::l,h=>by
  rw[List.all_cons,Bool.and_eq_true]at h;unfold fZ;rw[xW h.2];cases s<;>first|rfl|cases h.1
theorem F4{x:Operand}{s:SV}(h:evs env g x=some s){d:Nat}(hf:bU d env rs=true):∀q∈s.names [],q % 1000000≠d:=by
 intro q hq;cases x with
 |tmp t=>
  unfold evs at h;simp only at h;cases hl:lk env t with
  |none=>rw[hl]at h;simp at h
  |some u=>
   have hu:=sV hf t u hl;rw[hl]at h;cases u
   case gd d' b y=>
    simp only at h;split at h
    ·rename_i d1 b1;cases hb:(Nat.beq d' d1&&(b==b1))with
     |false=>rw[hb]at h;cases h
     |true=>
      rw[hb]at h;injection h with h
      subst h;exact hu q (by simpa[SV.names]using hq)
    ·cases h
   all_goals
    simp only[Option.some.injEq]at h;subst h;exact hu q hq
 |const c=>
  unfold evs at h;simp only at h;split at h<;>first|(simp only[Option.some.injEq]at h;subst h;simp[SV.names]at hq)|(simp at h)
 |func f=>
  unfold evs at h;simp only[Option.some.injEq]at h;subst h;simp[SV.names,fZ]at hq
 |global i=>simp[evs]at h
theorem au.cellsOf{s:SV}{x:Value}(h:Den cx β s x)(hn:(∃l,s=.agg l)∨x.oneCell'=true):∃us:List Value,x.cells=us.toArray∧au cx β (cellsOf s) us:=by
 rcases hn with⟨l,rfl⟩|h1
 ·unfold Den at h;obtain⟨vs,rfl,h2⟩:=h;exact⟨vs,rfl,h2⟩
 ·refine⟨[x],by rw[mI h1],?_⟩;cases s
  case agg l=>unfold Den at h;obtain⟨vs,rfl,_⟩:=h;cases h1
  all_goals exact au.one h
theorem Gs(hti:gM P ti=true){d:Nat}(hd:d<1000000)(hf:bU d env rs=true)(hH:Inv cx.w0 cx.F0 w (rs.map (Tok.res cx β)++fr)){t:TypeId}{x:ou}(hl:lk ti t=some x){dst:Option Nat}{ty:TypeId}{pos:String}{aft:Array Edge}{gd:Option (Nat×Bool)}:
  Lm P cx β fr a w d ⟨dst,.alloc t,ty,pos,aft,gd⟩ (.ptr d 0) (.bY d t (lJ x)::rs):=by
 obtain⟨h1,_,h2⟩:=pY hti hl;obtain⟨h3,h4⟩:=vW (cx:=cx) (β:=β) h1;obtain⟨k1,k2,k3⟩:=E5 (t:=t) hd hf hH (fun g hg=>by rw[xW h1]at hg;simp at hg) h3 h4;exact .inl ⟨_,_,_,KG h2,k1,k2,k3⟩
theorem FJ{d:Nat}(hd:d<1000000)(hf:bU d env rs=true)(hH:Inv cx.w0 cx.F0 w (rs.map (Tok.res cx β)++fr)){t:TypeId}{x:Operand}{s:SV}{y:Value}(hx:a.eval x=y)(hs:Den cx β s y){cs:List SV}{us:List Value}(hy:y.cells=us.toArray)(hc:au cx β cs us)(h1:us.all (·.oneCell')=true)(hn:∀g∈fZ cs [],g % 1000000≠d)
  {dst:Option Nat} {ty:TypeId} {pos:String} {aft:Array Edge} {gd:Option (Nat×Bool)}:Lm P cx β fr a w d ⟨dst,.box t x,ty,pos,aft,gd⟩ (.ptr d 0) (.bY d t cs::rs):=by
 obtain⟨k1,k2,k3⟩:=E5 (t:=t) hd hf hH hn hc h1;exact .inl ⟨_,_,_,NU hx hy,k1,k2,k3⟩
theorem E8{d:Nat}{e:TypeId}{s:Nat}{u:U}{xs:List (El u)}{us:List Value}{rs':List Tok}{cur:Array Value}{m:Nat}(hd:d<1000000)(hn:∀t∈rs',∀g∈t.names [],g % 1000000≠d)(hus:u.size=s)(hm:m≤maxLen)(hcur:cur.size=m*s)(hl:xs.length≤m)(htk:cur.toList.take (xs.length*s)=us)
  (hH:Inv cx.w0 cx.F0 w (dL us (xs.flatMap (enc u))::(rs'.map (Tok.res cx β)++fr))):
  vM d β (up β d (.slice (some ⟨w.heap.size,0,none⟩) xs.length m))∧Den cx (up β d (.slice (some ⟨w.heap.size,0,none⟩) xs.length m)) (.sl d) (.slice (some ⟨w.heap.size,0,none⟩) xs.length m)∧
   Inv cx.w0 cx.F0 (w.alloc (.cells cur e)) ((Tok.row d e s u xs []::rs').map (Tok.res cx (up β d (.slice (some ⟨w.heap.size,0,none⟩) xs.length m)))++fr):=by
 have hA:=qN (β:=β) hd (.slice (some ⟨w.heap.size,0,none⟩) xs.length m);refine⟨hA,by unfold Den;exact⟨(fu _ _).symm,_,_,_,rfl⟩,?_⟩
 have h0:Inv cx.w0 cx.F0 w (dL us (xs.flatMap (enc u))::(rs'.map (Tok.res cx (up β d (.slice (some ⟨w.heap.size,0,none⟩) xs.length m)))++fr)):=by
  have h1:Inv cx.w0 cx.F0 w (rs'.map (Tok.res cx β)++(dL us (xs.flatMap (enc u))::fr)):=hH.perm List.perm_middle.symm;exact(h1.beta fun t ht g hg=>hA g (hn t ht g hg)).perm List.perm_middle
 have h2:=h0.alloc cur.toList e;simp only[Array.toArray_toList]at h2;obtain⟨F1,F2,⟨rfl,h3⟩,⟨h4,h5⟩,h6,h7⟩:=h2.take2;refine h7 _ ([w.heap.size]++F2) (fun b hb=>by simpa using hb) ⟨hus,F2,us,?_,?_⟩
 ·rw[fu];rfl
 ·rw[fu];have hsz:=h4.length;refine⟨⟨⟨?_,.inr ⟨w.heap.size,m,cur,rfl,Nat.zero_le _,by simpa using h3,hl,hm,hcur,htk⟩⟩,h4,h5,fun k hk hm=> ?_⟩,nP⟩
  ·rw[hsz,fq,hus]
  ·injection hk with hk
   subst hk;exact h6 _ (by simp) hm
theorem EO{s:Nat}:∀(vs:List Value) (uss:List (List Value)) (k:Nat) (cells:Array Value),F2 (fun v us=>Value.cells v=List.toArray us∧us.length=s) vs uss→(k+vs.length)*s≤cells.size→
  ∃r,Instr.fill (fun i=>some (i*s,s)) cells ((vs.zipIdx k).map fun x=>(x.2,x.1))=some r∧r.toList=cells.toList.take (k*s)++uss.flatten++cells.toList.drop ((k+vs.length)*s)
 |[],[],k,cells,_,h=>⟨cells,rfl,by simp⟩
 |v::vs,us::uss,k,cells,.cons ⟨h1,h2⟩ h3,h=>by
  simp only[List.length_cons]at h
  have hle:k*s+s≤cells.size:=by
   have:(k+(vs.length+1))*s=k*s+s+vs.length*s:=by rw[Nat.add_mul,Nat.add_mul];omega
   omega
  have hz:(v.cells.zipIdx.foldl (fun cs (c,j)=>cs.setIfInBounds (k*s+j) c) cells).toList=cells.toList.take (k*s)++us++cells.toList.drop (k*s+s):=by
   have:=foldl_set us 0 (k*s) cells (by omega);rw[h1,←Array.foldl_toList,Array.toList_zipIdx];simpa[h2]using this
  have hsz:(v.cells.zipIdx.foldl (fun cs (c,j)=>cs.setIfInBounds (k*s+j) c) cells).size=cells.size:=by
   rw[←Array.length_toList,hz];simp;omega
  obtain⟨r,k1,k2⟩:=EO vs uss (k+1) _ h3 (by(rw[hsz];have:k+1+vs.length=k+(vs.length+1):=by omega);rw[this];exact h);refine⟨r,?_,?_⟩
  ·rw[List.zipIdx_cons,List.map_cons];unfold Instr.fill;simp only;rw[if_neg (by rw[h1];simp;omega)];exact k1
  ·rw[k2,hz];have e1:(k+1)*s=k*s+s:=by rw[Nat.add_mul];omega
   have e2:(k+1+vs.length)*s=k*s+s+vs.length*s:=by rw[Nat.add_mul,Nat.add_mul];omega
   have e3:(k+(vs.length+1))*s=k*s+s+vs.length*s:=by rw[Nat.add_mul,Nat.add_mul];omega
   rw[e1,e2,List.length_cons,e3]
   have hlen:(cells.toList.take (k*s)++us).length=k*s+s:=by
    rw[List.length_append,List.length_take,h2,Array.length_toList];omega
   have t1:(cells.toList.take (k*s)++us++cells.toList.drop (k*s+s)).take (k*s+s)=cells.toList.take (k*s)++us:=by
    rw[←hlen];exact List.take_left
   have t2:(cells.toList.take (k*s)++us++cells.toList.drop (k*s+s)).drop (k*s+s+vs.length*s)=cells.toList.drop (k*s+s+vs.length*s):=by
    rw[List.drop_append,hlen,List.drop_drop,List.drop_eq_nil_of_le (by rw[hlen];omega),List.nil_append]
    congr 1
    omega
   rw[t1,t2,List.flatten_cons];simp only[List.append_assoc]
theorem Ec{t e s m:Nat}(hE:mY P t e s){vs:List Value}{uss:List (List Value)}(hm:vs.length=m)(hb:m*s≤16777216)(hv:F2 (fun v us=>Value.cells v=List.toArray us∧us.length=s) vs uss)(w:World):
  (Instr.buildSlice t m ((vs.zipIdx.map fun x=>(x.2,x.1)).toArray)).run P w=.ok (.slice (some ⟨w.heap.size,0,none⟩) m m) (w.alloc (.cells uss.flatten.toArray e)):=by
 obtain⟨i,z,h1,h2,h3,h4,h5⟩:=hE.i;have hp:=hE.p
 have hfl:∀cells:Array Value,cells.size=m*s→Instr.fill (fun i=>some (i*s,s)) cells (vs.zipIdx.map fun x=>(x.2,x.1))=some uss.flatten.toArray:=fun cells hc=>by
  obtain⟨r,k1,k2⟩:=EO vs uss 0 cells hv (by rw[Nat.zero_add,hm,hc];exact Nat.le_refl _);rw[k1]
  congr 1
  apply Array.toList_inj.1;rw[k2];simp[hm,hc]
 have hz:(zeroValue e).run P w=.ok z w:=by simp[zeroValue,typeInfo,h1,h2]
 by_cases h0:m*s=0
 ·simp[Instr.buildSlice,run_underlying hE.u,sizeOf,typeInfo,h1,h3,h0,hfl _ (show(Array.map (fun _=>(default:Value)) (Array.range 0)).size=m*s by simp[h0]),newRow,Array.range_zero'];rw[show(Instr.fill (fun i=>some (i*s,s)) #[] (vs.zipIdx.map fun x=>(x.2,x.1)))=some uss.flatten.toArray from hfl #[] (by simp[h0])];simp[newRow]
 ·have hn:¬(16777216<m*s):=by omega
  simp[Instr.buildSlice,run_underlying hE.u,sizeOf,typeInfo,h1,h3,h0,hn,hz,newRow];rw[hfl _ (by simp)];simp[newRow]
end
end Go.Tr
namespace Go.Tr
open Go Go.RowKit
universe u
section
variable {cx:Cx}{β β':Nat→Value}{P:Program}{ti:TI}{n:Nat}{a:Act}{env:Ev}{rs:List Tok}{fr:List dK}{w w':World}{g:Option (Nat×Bool)}{v:SV}
 {dst:Option Nat} {ty:TypeId} {pos:String} {aft:Array Edge} {gd:Option (Nat×Bool)}
theorem zu(E:iB cx β n a env)(hg:jq a g):∀{l:List (Nat×Operand)} {k:Nat} {css:List (List SV)},qI env g l k=some css→
  ∃vs uss,l.map (fun x=>(x.1,a.eval x.2))=(vs.zipIdx k).map (fun x=>(x.2,x.1))∧vs.length=css.length∧F2 (fun v us=>Value.cells v=List.toArray us) vs uss∧F2 (fun cs us=>au cx β cs us) css uss
 |[],k,css,h=>by
  unfold qI at h;injection h with h
  subst h;exact⟨[],[],rfl,rfl,.nil,.nil⟩
 |(i,x)::l,k,css,h=>by
  unfold qI at h;cases hb:Nat.beq i k with
  |false=>rw[hb]at h;cases h
  |true=>
   rw[hb]at h;have:=aU hb;subst this;simp only[cond_true]at h;cases h1:evs env g x with
   |none=>rw[h1]at h;simp at h
   |some s=>
    cases h2:qI env g l (i+1)with
    |none=>rw[h1,h2]at h;simp at h
    |some r=>
     rw[h1,h2]at h;simp only[Option.some.injEq]at h;subst h;obtain⟨y,h3,h4⟩:=aJ E hg h1;obtain⟨us,h5,h6⟩:=vS h4;obtain⟨vs,uss,k1,k2,k3,k4⟩:=zu E hg h2;exact⟨y::vs,us::uss,by rw[List.map_cons,k1,List.zipIdx_cons,List.map_cons,h3],by simp[k2],.cons h5 k3,.cons h6 k4⟩
theorem EN{α γ:Type u}{R:α→γ→Prop}{q:γ→Prop}:∀{l:List α} {m:List γ},F2 R l m→(∀b∈m,q b)→F2 (fun a b=>R a b∧q b) l m
 |[],[],_,_=>.nil
 |_::_,_::_,.cons h1 h2,h=>.cons ⟨h1,h _ (by simp)⟩ (EN h2 fun b hb=>h b (by simp[hb]))
theorem fO{d:Nat}(hf:bU d env rs=true){rs':List Tok}(hs:∀t∈rs',t∈rs):∀t∈rs',∀g∈t.names [],g % 1000000≠d:=fun t ht=>kN hf t (hs t ht)
def FP(P:Program)(env:Ev)(rs:List Tok)(g:Option (Nat×Bool))(d:Nat)(o:Oper)(v:SV)(rs':List Tok):Prop:=∀(cx:Cx) (β:Nat→Value) (n:Nat) (fr:List dK) (a:Act) (w:World),iB cx β n a env→jq a g→Inv cx.w0 cx.F0 w (rs.map (Tok.res cx β)++fr)→Lm P cx β fr a w d o v rs'
theorem xE(hti:gM P ti=true){d:Nat}(hd:d<1000000)(hf:bU d env rs=true){t m e s:Nat}{u:U}{u0:U}(hl:lk ti t=some (.sl e s u0))(hus:u.size=s){ps:Array (Nat×Operand)}{css:List (List SV)}
  (hp:qI env g ps.toList 0=some css) (hm:css.length=m) (hb:m*s≤16777216) {K:List (El u)→List Tok→Prop} (h:Gf u css rs K):∃xs rs',K xs rs'∧FP P env rs g d ⟨dst,.buildSlice t m ps,ty,pos,aft,gd⟩ (.sl d) (.row d e s u xs []::rs'):=by
 obtain⟨xs,rs',k1,k5,k2,k34⟩:=EY h;refine⟨xs,rs',k1,fun cx β n fr a w E hg hH=> ?_⟩;obtain⟨vs,uss,h1,h2,h3,h4⟩:=zu E hg hp;obtain⟨k3,k4⟩:=k34 cx β w _ _ uss fr h4 hH;have hE:=mU hti hl;have hv:=EN (q:=fun us=>us.length=s) h3 (fun us hu=>(k3 us hu).trans hus);have hvl:vs.length=m:=h2.trans hm
 have hps:(ps.map fun(i,x)=>(i,a.eval x))=(vs.zipIdx.map fun x=>(x.2,x.1)).toArray:=by
  apply Array.toList_inj.1;rw[Array.toList_map];exact h1
 have hfl:uss.flatten.length=m*s:=by
  have:∀{vs:List Value} {uss:List (List Value)},F2 (fun v us=>Value.cells v=List.toArray us∧us.length=s) vs uss→uss.flatten.length=vs.length*s:=by
   intro vs uss h
   induction h with
   |nil=>simp
   |cons h _ ih=>simp[h.2,ih,Nat.add_mul];omega
  rw[this hv,hvl]
 have hpos:=hE.p
 have hml:m≤maxLen:=by
  have:m*1≤m*s:=Nat.mul_le_mul_left m hpos;have:maxLen=9223372036854775807:=rfl;omega
 obtain⟨q1,q2,q3⟩:=E8 (e:=e) (cur:=uss.flatten.toArray) (m:=m) hd (fO hf k5) hus hml (by simpa using hfl) (by omega) (by
  rw[k2,hm,←hfl];exact List.take_length) k4
 rw[k2,hm]at q1 q2 q3;exact .inl ⟨_,_,_,IX hps (Ec hE hvl hb hv w),q1,q2,q3⟩
theorem H8{w0:World}{F0:List Nat}{x:Value}{e s q:Nat}{es:List D}{R:List dK}(h:Inv w0 F0 w (Gr x e s q es::R)):∃A c us,x=.slice A q c∧Src w s A q us∧Inv w0 F0 w (dL us es::R):=by
 obtain⟨F,⟨bs,us,rfl,hg⟩,h3,_⟩:=h.take1;have hI:Inv w0 F0 w (dL us es::R):=h3 _ bs (fun b hb=>by simp[hb]) ⟨hg.tn,hg.own⟩;have h1:=hg.tn.yG;rcases hg.row.2 with⟨rfl,rfl⟩|⟨b,cap,cur,rfl,_,hb,hn,hc,hs,ht⟩
 ·exact⟨none,0,us,rfl,⟨hg.row.1,fun h=>absurd h (by omega),h1⟩,hI⟩
 ·refine⟨_,cap,us,rfl,⟨hg.row.1,fun _=>⟨_,rfl,fun j u hu=> ?_⟩,h1⟩,hI⟩;have hadd:(⟨b,0,none⟩:Addr).add j=⟨b,j,none⟩:=by unfold Addr.add;split<;>simp_all
  rw[hadd,cell_of_row w b j cur e (0,0) hb];rw[←ht,List.getElem?_take]at hu;split at hu
  ·simpa using hu
  ·cases hu
theorem Inv.Bb{w0:World}{F0:List Nat}{v:Value}{t:TypeId}{s m:Nat}{ds:List D}{R:List dK}(h:Inv w0 F0 w (Gr v t s m ds::R)):Inv w0 F0 w (uX v t s m ds []::R):=h.weak fun F hp=>⟨F,fun _ h=>h,Mc hp⟩
theorem Inv.yF{w0:World}{F0:List Nat}{v:Value}{t:TypeId}{s m:Nat}{ds:List D}{pre:List Value}{R:List dK}(h:Inv w0 F0 w (uX v t s m ds pre::R)):Inv w0 F0 w (Gr v t s m ds::R):=h.weak fun F hp=>⟨F,fun _ h=>h,H9 hp⟩
theorem jW{w0:World}{F0:List Nat}{k:Nat}{t:TypeId}{s:Nat}{u:U}{xs:List (El u)}{us:List Value}{R:List dK}(h:Inv w0 F0 w (Tok.res cx β (.row k t s u xs us)::R)):u.size=s∧Inv w0 F0 w (uX (β k) t s xs.length (xs.flatMap (enc u)) us::R):=by
 obtain⟨F,h1,h2,h3⟩:=h.take1;exact⟨h1.1,h2 _ F (fun _ h=>h) h1.2⟩
theorem Bv{w0:World}{F0:List Nat}{v:Value}{m tS e s q c:Nat}{ds es:List D}{us pre:List Value}{A:Option Addr}{R:List dK}(hE:mY P tS e s)(H:Inv w0 F0 w (uX v e s m ds pre::dL us es::R))(hsrc:Src w s A q us)(hb:m+q≤1073741824):
  ∃v' w',(Builtin.append_ #[tS,tS] ty #[v,.slice A q c]).run P w=.ok v' w'∧(∃A' c',v'=.slice A' (m+q) c')∧Inv w0 F0 w' (uX v' e s (m+q) (ds++es) pre::R):=by
 obtain⟨F,⟨F1,G1,rfl,⟨bs,ug,rfl,hg,hpre⟩,⟨F2,G2,rfl,⟨k1,k2⟩,rfl,_⟩,hd⟩,_,h4⟩:=Inv.frame (pre:=[uX v e s m ds pre,dL us es]) (rest:=R) H;rw[List.append_nil]at hd h4;obtain⟨v',w',hrun,h5,h6,h7,_⟩:=CP (P:=P) (ty:=ty) hE 0 v m ug hg.row A q c us hsrc hb (Nat.zero_le _);have hdr:∀g,v.ownBlock=some g→g∉F2:=fun g hg' hm=>hd g (by simp[jB,hg']) hm
 have hgr:=hg.app k1 k2 (fun y hy hm=>hd y (by simp[hy]) hm) hdr h5 h6 h7;refine⟨v',w',hrun,Gi h5,h4 w' [_] ⟨⟨h6.os,h6.tape,h6.output,h6.size,fun b hb hn=>h6.block b hb (fun e=>hn (by simp[jB,←e]))⟩,tT v'++(bs++F2),⟨_,[],by simp,⟨bs++F2,_,rfl,hgr,hpre.trans (List.prefix_append _ _)⟩,rfl,by simp⟩,fun b hb=> ?_⟩⟩;simp only[List.mem_append,jB]at hb ⊢;rcases hb with hb|hb|hb
 ·rcases h7 with h8|h8
  ·exact .inl (.inl (.inl (by rw[←h8];exact hb)))
  ·rw[h8]at hb;injection hb with hb;exact .inr (by omega)
 ·exact .inl (.inl (.inr hb))
 ·exact .inl (.inr hb)
theorem vO{d:Nat}(hd:d<1000000){t e s:Nat}(hE:mY P t e s){u:U}{xs ys:List (El u)}{x y:Operand}{v1 v2:Value}{rs':List Tok}(hn:∀t∈rs',∀g∈t.names [],g % 1000000≠d)(hus:u.size=s)(h1:a.eval x=v1)(h2:a.eval y=v2){us:List Value}{A:Option Addr}{c q:Nat}(hy:v2=.slice A q c)(hq:ys.length=q)(hb:xs.length+ys.length≤1073741824)(hs:Src w s A q us)
  {pre:List Value} (hI:Inv cx.w0 cx.F0 w (uX v1 e s xs.length (xs.flatMap (enc u)) pre::dL us (ys.flatMap (enc u))::(rs'.map (Tok.res cx β)++fr))):
  Lm P cx β fr a w d ⟨dst,.call ⟨.builtin .append, #[x,y], #[t,t]⟩,ty,pos,aft,gd⟩ (.sl d) (.row d e s u (xs++ys) pre::rs'):=by
 subst hy;obtain⟨v',w',hrun,⟨A',c',rfl⟩,hI'⟩:=Bv (ty:=ty) (c:=c) hE hI hs (by omega);have hA:=qN (β:=β) hd (.slice A' (xs.length+q) c');refine .inl ⟨_,w',up β d (.slice A' (xs.length+q) c'),Lf h1 h2 hrun,hA,by unfold Den;exact⟨(fu _ _).symm,_,_,_,rfl⟩,?_⟩;have h0:Inv cx.w0 cx.F0 w' (rs'.map (Tok.res cx β)++(uX (.slice A' (xs.length+q) c') e s (xs.length+q) (xs.flatMap (enc u)++ys.flatMap (enc u)) pre::fr)):=hI'.perm List.perm_middle.symm;have h3:=(h0.beta (β':=up β d (.slice A' (xs.length+q) c')) fun t ht g hg=>hA g (hn t ht g hg)).perm List.perm_middle
 refine h3.weak fun F hp=>⟨F,fun _ h=>h,hus,?_⟩
 rw[fu,List.flatMap_append,List.length_append,hq];exact hp
theorem oK:∀(u:U) (x:El u) {bs:List Nat} {us:List Value},jJ u=true→TN w (enc u x) bs us→bs=[]
 | .int _,x,bs,us,_,h| .bool,x,bs,us,_,h| .str,x,bs,us,_,h| .any,x,bs,us,_,h=>by
  obtain⟨b1,b2,u,us',rfl,rfl,h2,h3⟩:=TN.cons.1 h;obtain⟨_,rfl,_⟩:=T1.v.1 h2;obtain⟨_,rfl⟩:=TN.nil.1 h3;rfl
 | .sl _,x,bs,us,hf,h=>by cases hf
 | .tree _,x,bs,us,hf,h=>by cases hf
 | .pair a b,x,bs,us,hf,h=>by
  unfold jJ at hf;rw[Bool.and_eq_true]at hf;obtain⟨b1,b2,u1,u2,rfl,rfl,h1,h2⟩:=TN.append.1 h;rw[oK a x.1 hf.1 h1,oK b x.2 hf.2 h2];rfl
theorem y5(u:U)(hf:jJ u=true):∀(xs:List (El u)) {bs:List Nat} {us:List Value},TN w (xs.flatMap (enc u)) bs us→bs=[]
 |[],bs,us,h=>(TN.nil.1 h).2
 |x::xs,bs,us,h=>by
  rw[List.flatMap_cons]at h;obtain⟨b1,b2,u1,u2,rfl,rfl,h1,h2⟩:=TN.append.1 h;rw[oK u x hf h1,y5 u hf xs h2];rfl
theorem Eb{R:List dK}{u:U}{ys:List (El u)}{v:Value}(hf:jJ u=true)(h:nY cx.w0 cx.F0 (.sl ys.length (ys.flatMap (enc u))) v)(H:Inv cx.w0 cx.F0 w R):∃A c us,v=.slice A ys.length c∧Src w u.size A ys.length us∧Inv cx.w0 cx.F0 w (dL us (ys.flatMap (enc u))::R):=by
 obtain⟨A,c,rfl⟩:=h.slice;obtain⟨bs,h1⟩:=h.now H;obtain⟨us,bs',h2,h3,_⟩:=h1.src (fq u ys);have:=y5 u hf ys h3;subst this;refine⟨A,c,us,rfl,h2,H.new (ss:=[dL us (ys.flatMap (enc u))]) ⟨oh.refl _ _,[],?_,by simp⟩⟩;exact⟨[],[],rfl,⟨h3,Own.nil _ _⟩,rfl,by simp⟩
theorem Ji{u:U}:∀(ys:List (El u)) {us:List Value},kD cx.w0 cx.F0 (List.flatMap (enc u) ys) us→au cx β (List.flatMap (dS u) ys) us
 |[],us,h=>by
  obtain⟨bs,h1,_⟩:=h;obtain⟨rfl,_⟩:=TN.nil.1 h1;unfold List.flatMap au;rfl
 |y::ys,us,h=>by
  rw[List.flatMap_cons]at h ⊢;obtain⟨u1,u2,rfl,h1,h2⟩:=kD.append h;exact(jF u y h1).app (Ji ys h2)
theorem Jj{us:List Value}(h:us.all (·.oneCell')=true):TN w (us.map D.v) [] us:=by
 induction us with
 |nil=>exact TN.done
 |cons u us ih=>
  simp only[List.all_cons,Bool.and_eq_true]at h;exact TN.fH h.1 (ih h.2)
theorem Ja{R:List dK}{u:U}{ys:List (El u)}{v:Value}(h:nY cx.w0 cx.F0 (.sl ys.length (ys.flatMap (enc u))) v)(H:Inv cx.w0 cx.F0 w R):∃A c us,v=.slice A ys.length c∧Src w u.size A ys.length us∧au cx β (List.flatMap (dS u) ys) us:=by
 obtain⟨A,c,rfl⟩:=h.slice;obtain⟨bs,h1,h2⟩:=h;unfold T1 at h1;obtain⟨A',c',he,hn,hc,h1⟩:=h1;injection he with hA _ _
 subst hA;rcases h1 with⟨e1,e2,rfl⟩|⟨h0,b,off,us,bs',rfl,rfl,hb,hca,ht⟩
 ·have hy:ys=[]:=List.eq_nil_of_length_eq_zero e1;subst hy;exact⟨A,c,[],rfl,⟨by simp,by simp,rfl⟩,by unfold List.flatMap au;rfl⟩
 ·have hk:w.heap[b]? =cx.w0.heap[b]? :=H.lK.other b hb (h2 b (by simp));refine⟨_,c,us,rfl,⟨by rw[ht.length,fq],fun _=>⟨_,rfl,fun j x hx=> ?_⟩,ht.yG⟩,Ji ys ⟨bs',ht,fun y hy=>h2 y (by simp[hy])⟩⟩;have hadd:(⟨b,off,none⟩:Addr).add j=⟨b,off+j,none⟩:=by unfold Addr.add;split<;>simp_all
  rw[hadd,World.cell?_of_block hk];exact hca j x hx
theorem vk{d:Nat}(hd:d<1000000){t e s:Nat}(hE:mY P t e s){u:U}{xs ys:List (El u)}{x y:Operand}{v1 v2:Value}{rs':List Tok}(hn:∀t∈rs',∀g∈t.names [],g % 1000000≠d)(hus:u.size=s)(h1:a.eval x=v1)(h2:a.eval y=v2)(hb:xs.length+ys.length≤1073741824)
  {us:List Value} (hD:au cx β (List.flatMap (dS u) xs) us) (hro:nY cx.w0 cx.F0 (.sl ys.length (ys.flatMap (enc u))) v2) (h1c:us.all (·.oneCell')=true)
  (hI:Inv cx.w0 cx.F0 w (uX v1 e s xs.length (us.map D.v) []::(rs'.map (Tok.res cx β)++fr))):
  Lm P cx β fr a w d ⟨dst,.call ⟨.builtin .append, #[x,y], #[t,t]⟩,ty,pos,aft,gd⟩ (.sl d) (.dat d e s u (xs++ys)::rs'):=by
 obtain⟨A,c,us2,rfl,j2,j3⟩:=Ja (β:=β) hro hI;have hI1:Inv cx.w0 cx.F0 w (dL us2 (us2.map D.v)::(uX v1 e s xs.length (us.map D.v) []::(rs'.map (Tok.res cx β)++fr))):=hI.new (ss:=[dL us2 (us2.map D.v)]) ⟨oh.refl _ _,[],⟨[],[],rfl,⟨Jj j2.one,Own.nil _ _⟩,rfl,by simp⟩,by simp⟩;rw[hus]at j2;obtain⟨v',w',hrun,⟨A',c',rfl⟩,hI'⟩:=Bv (ty:=ty) (c:=c) hE hI1.swap j2 hb;have hA:=qN (β:=β) hd (.slice A' (xs.length+ys.length) c');refine .inl ⟨_,w',up β d (.slice A' (xs.length+ys.length) c'),Lf h1 h2 hrun,hA,by unfold Den;exact⟨(fu _ _).symm,_,_,_,rfl⟩,?_⟩
 have h0:Inv cx.w0 cx.F0 w' (rs'.map (Tok.res cx β)++(uX (.slice A' (xs.length+ys.length) c') e s (xs.length+ys.length) (us.map D.v++us2.map D.v) []::fr)):=hI'.perm List.perm_middle.symm;have h3:=(h0.beta (β':=up β d (.slice A' (xs.length+ys.length) c')) fun t ht g hg=>hA g (hn t ht g hg)).perm List.perm_middle;refine h3.weak fun F hp=>⟨F,fun _ h=>h,hus,us++us2,?_,by rw[List.all_append,h1c,j2.one];rfl,?_⟩
 ·rw[List.flatMap_append];exact(hD.BX (β':=_)).app j3.BX
 ·rw[fu,List.length_append,List.map_append];exact hp
theorem JN(hti:gM P ti=true){d:Nat}(hd:d<1000000)(hf:bU d env rs=true){args:Array Operand}{tys:Array TypeId}{K:SV→List Tok→Prop}
  (h:LG P ti env rs g d ⟨.builtin .append,args,tys⟩ K):∃v rs',K v rs'∧FP P env rs g d ⟨dst,.call ⟨.builtin .append,args,tys⟩,ty,pos,aft,gd⟩ v rs':=by
 unfold LG at h;simp only at h;split at h
 ·rename_i x y t t' hx hy;have har:args= #[x,y]:=by simpa using congrArg List.toArray hx
  have hty:tys= #[t,t']:=by simpa using congrArg List.toArray hy
  subst har hty;cases hb:Nat.beq t t' with
  |false=>rw[hb]at h;exact h.elim
  |true=>
   rw[hb]at h;have:=aU hb;subst this;simp only[cond_true]at h;split at h
   ·rename_i e s u q k hl hx hy;obtain⟨e1,s1,u1,xs,us1,rs1,h3,p1⟩:=eB h;obtain⟨e2,s2,u2,ys,_,rs2,h4,p2⟩:=eB h3;cases hc:(Nat.beq e1 e&&Nat.beq s1 s&&Nat.beq s2 s)with
    |false=>rw[hc]at h4;exact h4.elim
    |true=>
     rw[hc]at h4;simp only[Bool.and_eq_true]at hc;have c1:=aU hc.1.1;have c2:=aU hc.1.2;have c3:=aU hc.2;subst c1 c2 c3;simp only[cond_true]at h4;split at h4
     ·rename_i hu;have hue:=cB hu;subst hue;obtain⟨hle,hK⟩:=h4;refine⟨_,_,hK,fun cx β n fr a w E hg hH=> ?_⟩;obtain⟨v1,h1,d1⟩:=aJ E hg hx;obtain⟨v2,h2,d2⟩:=aJ E hg hy;unfold Den at d1 d2;obtain⟨d1,_⟩:=d1;obtain⟨d2,_⟩:=d2;obtain⟨k1,k2⟩:=jW (hH.iM p1);obtain⟨_,k3⟩:=jW (((Inv.swap ((k2.perm ((List.Perm.cons _ ((p2.map _).append_right fr))))))));obtain⟨A,c,us,j1,j2,j3⟩:=H8 k3.yF;refine vO hd (mU hti hl) (fO hf fun t ht=>p1.mem_iff.2 (List.mem_cons_of_mem _ (p2.mem_iff.2 (List.mem_cons_of_mem _ ht)))) k1 h1 h2 (d2.trans j1) rfl hle j2 ?_
      rw[d1];exact Inv.swap j3
     ·exact h4.elim
   ·rename_i e s u k hl hx hy;obtain⟨e2,s2,u2,ys,_,rs2,h4,p2⟩:=eB h;cases hc:Nat.beq s2 s with
    |false=>rw[hc]at h4;exact h4.elim
    |true=>
     rw[hc]at h4;have c1:=aU hc;subst c1;obtain⟨hle,hK⟩:=h4;refine⟨_,_,hK,fun cx β n fr a w E hg hH=> ?_⟩;obtain⟨v1,h1,d1⟩:=aJ E hg hx;obtain⟨v2,h2,d2⟩:=aJ E hg hy;unfold Den at d1 d2;obtain⟨d1,_⟩:=d1;obtain⟨d2,_⟩:=d2;obtain⟨k1,k2⟩:=jW (hH.iM p2);obtain⟨A,c,us,j1,j2,j3⟩:=H8 k2.yF
     exact vO (P:=P) (β:=β) (fr:=fr) (w:=w) (dst:=dst) (ty:=ty) (pos:=pos) (aft:=aft) (gd:=gd) (xs:=([]:List (El u2))) (ys:=ys) hd (mU hti hl) (fO hf fun t ht=>p2.mem_iff.2 (List.mem_cons_of_mem _ ht)) k1 h1 h2 (d2.trans j1) rfl (by simpa using hle) j2 (by
      rw[d1];exact(j3.Dz _ _).Bb)
   ·rename_i e s u q e2 ys hl hx hy;cases hc:(jJ e2&&Nat.beq e2.size s)with
    |false=>
     rw[hc]at h;simp only[cond_false]at h;split at h
     ·obtain⟨e1,s1,u1,xs,rs1,h3,p1⟩:=qM h;cases hd2:(Nat.beq e1 e&&Nat.beq s1 s)with
      |false=>rw[hd2]at h3;exact h3.elim
      |true=>
       rw[hd2]at h3;rw[Bool.and_eq_true]at hd2;have c1:=aU hd2.1;have c2:=aU hd2.2;subst c1 c2;simp only[cond_true]at h3;split at h3
       ·rename_i hu;have hue:=cB hu;subst hue;obtain⟨hle,hK⟩:=h3;refine⟨_,_,hK,fun cx β n fr a w E hg hH=> ?_⟩;obtain⟨v1,h1,d1⟩:=aJ E hg hx;obtain⟨v2,h2,d2⟩:=aJ E hg hy;unfold Den at d1 d2;obtain⟨d1,_⟩:=d1;obtain⟨F,⟨q1,us,q2,q3,q4⟩,q5,_⟩:=Inv.take1 (r:=Tok.res cx β (.dat q e1 s1 e2 xs)) (hH.iM p1);refine vk hd (mU hti hl) (fO hf fun t ht=>p1.mem_iff.2 (List.mem_cons_of_mem _ ht)) q1 h1 h2 hle q2 d2 q3 ?_;rw[d1];exact q5 _ F (fun _ h=>h) q4
       ·exact h3.elim
     ·obtain⟨e1,s1,u1,xs,us1,rs1,h3,p1⟩:=eB h;split at h3
      ·cases hd2:((Nat.beq e1 e&&Nat.beq s1 s)&&Nat.beq e2.size s)with
       |false=>rw[hd2]at h3;exact h3.elim
       |true=>
        rw[hd2]at h3;simp only[Bool.and_eq_true]at hd2;have c1:=aU hd2.1.1;have c2:=aU hd2.1.2;have c3:=aU hd2.2;subst c1 c2;obtain⟨hle,hK⟩:=h3;refine⟨_,_,hK,fun cx β n fr a w E hg hH=> ?_⟩;obtain⟨v1,h1,d1⟩:=aJ E hg hx;obtain⟨v2,h2,d2⟩:=aJ E hg hy;unfold Den at d1 d2;obtain⟨d1,_⟩:=d1;obtain⟨k1,k2⟩:=jW (hH.iM p1);refine vk (xs:=([]:List (El e2))) (us:=[]) hd (mU hti hl) (fO hf fun t ht=>p1.mem_iff.2 (List.mem_cons_of_mem _ ht)) c3 h1 h2 (by simpa using hle) (by unfold List.flatMap au;rfl) d2 rfl ?_
        rw[d1];exact(k2.yF).Bb
      ·exact h3.elim
    |true=>
     rw[hc]at h;rw[Bool.and_eq_true]at hc;obtain⟨e1,s1,u1,xs,us1,rs1,h3,p1⟩:=eB h;cases hd2:(Nat.beq e1 e&&Nat.beq s1 s)with
     |false=>rw[hd2]at h3;exact h3.elim
     |true=>
      rw[hd2]at h3;rw[Bool.and_eq_true]at hd2;have c1:=aU hd2.1;have c2:=aU hd2.2;have c3:=aU hc.2;simp only[cond_true]at h3;split at h3
      ·rename_i hu;have hue:=cB hu;subst hue;subst c1 c2;obtain⟨hle,hK⟩:=h3;refine⟨_,_,hK,fun cx β n fr a w E hg hH=> ?_⟩;obtain⟨v1,h1,d1⟩:=aJ E hg hx;obtain⟨v2,h2,d2⟩:=aJ E hg hy;unfold Den at d1 d2;obtain⟨d1,_⟩:=d1;obtain⟨k1,k2⟩:=jW (hH.iM p1);obtain⟨A,c,us,j1,j2,j3⟩:=Eb hc.1 d2 k2;refine vO hd (mU hti hl) (fO hf fun t ht=>p1.mem_iff.2 (List.mem_cons_of_mem _ ht)) k1 h1 h2 j1 rfl hle (c3▸j2) ?_;rw[d1];exact Inv.swap j3
      ·exact h3.elim
   ·rename_i e s u e2 ys hl hx hy;cases hc:(jJ e2&&Nat.beq e2.size s)with
    |false=>
     rw[hc]at h;simp only[cond_false]at h;cases hc2:Nat.beq e2.size s with
     |false=>rw[hc2]at h;exact h.elim
     |true=>
      rw[hc2]at h;obtain⟨hle,hK⟩:=h;refine⟨_,_,hK,fun cx β n fr a w E hg hH=> ?_⟩;obtain⟨v1,h1,d1⟩:=aJ E hg hx;obtain⟨v2,h2,d2⟩:=aJ E hg hy;unfold Den at d1 d2;obtain⟨d1,_⟩:=d1;refine vk (xs:=([]:List (El e2))) (us:=[]) hd (mU hti hl) (fO hf fun t ht=>ht) (aU hc2) h1 h2 (by simpa using hle) (by unfold List.flatMap au;rfl) d2 rfl ?_;rw[d1];exact(hH.Dz _ _).Bb
    |true=>
     rw[hc]at h;rw[Bool.and_eq_true]at hc;have c3:=aU hc.2;obtain⟨hle,hK⟩:=h;refine⟨_,_,hK,fun cx β n fr a w E hg hH=> ?_⟩;obtain⟨v1,h1,d1⟩:=aJ E hg hx;obtain⟨v2,h2,d2⟩:=aJ E hg hy;unfold Den at d1 d2;obtain⟨d1,_⟩:=d1;obtain⟨A,c,us,j1,j2,j3⟩:=Eb hc.1 d2 hH
     exact vO (P:=P) (β:=β) (fr:=fr) (w:=w) (dst:=dst) (ty:=ty) (pos:=pos) (aft:=aft) (gd:=gd) (xs:=([]:List (El e2))) (ys:=ys) hd (mU hti hl) (fO hf fun t ht=>ht) c3 h1 h2 j1 rfl (by simpa using hle) (c3▸j2) (by
      rw[d1];exact(j3.Dz _ _).Bb)
   ·rename_i e s u q e2 ys hl hx hy;cases hc:(jJ e2&&Nat.beq e2.size s)with
    |false=>
     rw[hc]at h;simp only[cond_false]at h;obtain⟨e1,s1,u1,xs,us1,rs1,h3,p1⟩:=eB h;split at h3
     ·cases hd2:((Nat.beq e1 e&&Nat.beq s1 s)&&Nat.beq e2.size s)with
      |false=>rw[hd2]at h3;exact h3.elim
      |true=>
       rw[hd2]at h3;simp only[Bool.and_eq_true]at hd2;have c1:=aU hd2.1.1;have c2:=aU hd2.1.2;have c3:=aU hd2.2;subst c1 c2;obtain⟨hle,hK⟩:=h3;refine⟨_,_,hK,fun cx β n fr a w E hg hH=> ?_⟩;obtain⟨v1,h1,d1⟩:=aJ E hg hx;obtain⟨v2,h2,d2⟩:=aJ E hg hy;unfold Den at d1 d2;obtain⟨d1,_⟩:=d1;obtain⟨k1,k2⟩:=jW (hH.iM p1);refine vk (xs:=([]:List (El e2))) (us:=[]) hd (mU hti hl) (fO hf fun t ht=>p1.mem_iff.2 (List.mem_cons_of_mem _ ht)) c3 h1 h2 (by simpa using hle) (by unfold List.flatMap au;rfl) d2.1 rfl ?_
       rw[d1];exact(k2.yF).Bb
     ·exact h3.elim
    |true=>
     rw[hc]at h;rw[Bool.and_eq_true]at hc;obtain⟨e1,s1,u1,xs,us1,rs1,h3,p1⟩:=eB h;cases hd2:(Nat.beq e1 e&&Nat.beq s1 s)with
     |false=>rw[hd2]at h3;exact h3.elim
     |true=>
      rw[hd2]at h3;rw[Bool.and_eq_true]at hd2;have c1:=aU hd2.1;have c2:=aU hd2.2;have c3:=aU hc.2;simp only[cond_true]at h3;split at h3
      ·rename_i hu;have hue:=cB hu;subst hue;subst c1 c2;obtain⟨hle,hK⟩:=h3;refine⟨_,_,hK,fun cx β n fr a w E hg hH=> ?_⟩;obtain⟨v1,h1,d1⟩:=aJ E hg hx;obtain⟨v2,h2,d2⟩:=aJ E hg hy;unfold Den at d1 d2;obtain⟨d1,_⟩:=d1;obtain⟨d2,_⟩:=d2;obtain⟨k1,k2⟩:=jW (hH.iM p1);obtain⟨A,c,us,j1,j2,j3⟩:=Eb hc.1 d2 k2;refine vO hd (mU hti hl) (fO hf fun t ht=>p1.mem_iff.2 (List.mem_cons_of_mem _ ht)) k1 h1 h2 j1 rfl hle (c3▸j2) ?_;rw[d1];exact Inv.swap j3
      ·exact h3.elim
   ·exact h.elim
 ·exact h.elim
theorem Em:∀{n:Nat} {todo:List Nat} {rs:List Tok} {i:Nat} {K:List Tok→List (Nat×Nat)→List Tok→Prop},MQ n todo rs i K→∃tk σ rest,K tk σ rest∧rs.Perm (tk++rest)∧σ.length=tk.length∧∀(j:Nat) (t:Tok),tk[j]? =some t→σ[j]? =some (t.name,i+j)
 |0,todo,rs,i,K,h=>by unfold MQ at h;exact h.elim
 |n+1,[],rs,i,K,h=>by unfold MQ at h;exact⟨[],[],rs,h,List.Perm.refl _,rfl,fun j t h=>by simp at h⟩
 |n+1,g::todo,rs,i,K,h=>by
  unfold MQ at h;rcases fF h with⟨x,l,h1,h2,h3⟩|h1
  ·obtain⟨tk,σ,rest,k1,k2,k3,k4⟩:=Em h1;refine⟨x::tk,(g,i)::σ,rest,k1,h3.trans (k2.cons _),by simp[k3],fun j t hj=> ?_⟩;cases j with
   |zero=>simp at hj;subst hj;simp[h2]
   |succ j=>
    have:=k4 j t (by simpa using hj);simp only[List.getElem?_cons_succ,this]
    congr 2
    omega
  ·exact Em h1
theorem yR{d c g:Nat}:∀{σ:List (Nat×Nat)} {i:Nat},(c,g)∈vQ d σ i→(g,c)∈σ∨∃m,m≤9∧c=i+σ.length+m∧g=d+m*1000000
 |[],i,h=>by
  unfold vQ at h;simp only[List.mem_cons,Prod.mk.injEq,List.not_mem_nil,or_false]at h;rcases h with⟨rfl,rfl⟩|⟨rfl,rfl⟩|⟨rfl,rfl⟩|⟨rfl,rfl⟩|⟨rfl,rfl⟩|⟨rfl,rfl⟩|⟨rfl,rfl⟩|⟨rfl,rfl⟩|⟨rfl,rfl⟩|⟨rfl,rfl⟩
  ·exact .inr ⟨0,by omega,by simp,by simp⟩
  ·exact .inr ⟨1,by omega,by simp,by simp⟩
  ·exact .inr ⟨2,by omega,by simp,by simp⟩
  ·exact .inr ⟨3,by omega,by simp,by simp⟩
  ·exact .inr ⟨4,by omega,by simp,by simp⟩
  ·exact .inr ⟨5,by omega,by simp,by simp⟩
  ·exact .inr ⟨6,by omega,by simp,by simp⟩
  ·exact .inr ⟨7,by omega,by simp,by simp⟩
  ·exact .inr ⟨8,by omega,by simp,by simp⟩
  ·exact .inr ⟨9,by omega,by simp,by simp⟩
 |(g0,c0)::σ,i,h=>by
  unfold vQ at h;rcases List.mem_cons.1 h with h|h
  ·cases h;exact .inl (by simp)
  ·rcases yR h with h|⟨m,h1,h2,h3⟩
   ·exact .inl (List.mem_cons_of_mem _ h)
   ·exact .inr ⟨m,h1,by rw[h2,List.length_cons];omega,h3⟩
theorem Bu:∀{l e:List Tok} {K:List Tok→Prop},GV l e K→K (l++e)
 |[],e,K,h=>h
 |x::l,e,K,h=>Bu (l:=l) (K:=fun l'=>K (x::l')) h
theorem LZ{d f:Nat}(hd:d<1000000)(hf:bU d env rs=true){vs l:List SV}{y:Operand}{xs:List Operand}(hy:evs env g y=some (.fn f l))(hvs:zZ env g xs=some vs){K:SV→List Tok→Prop}(h:Pt P rs d f (vs++l) K){tys:Array TypeId}:
  ∃v rs',K v rs'∧FP P env rs g d ⟨dst,.call ⟨.value y,xs.toArray,tys⟩,ty,pos,aft,gd⟩ v rs':=by
 unfold Pt at h;obtain⟨tk,σ,rest,h,hp,hσ,hσ2⟩:=Em h;obtain⟨vs',h,hv⟩:=pW h;obtain⟨tk',h,htl,ht⟩:=mQ h;obtain⟨r,ts',⟨hok,hq⟩,h⟩:=h;obtain⟨r',h,hr⟩:=xq h;obtain⟨ts'',h,_,hts⟩:=mQ h;have h:=Bu h;refine⟨r',ts''++rest,h,fun cx β n fr a w E hg hH=> ?_⟩;have hx0:=vE E hg hvs;obtain⟨fv,e1,e2⟩:=aJ E hg hy;unfold Den at e2;obtain⟨cs,rfl,e3⟩:=e2;have hx:=hx0.app e3
 let βc:Nat→Value:=fun c=>match σ[c-10000]? with|some (g,_)=>β g|none=>β c
 have hσm:∀g c,(g,c)∈σ→∃j t,tk[j]? =some t∧g=t.name∧c=10000+j:=fun g c hm=>by
  obtain⟨j,hj⟩:=List.getElem?_of_mem hm;have hlt:j<tk.length:=by rw[←hσ];exact(List.getElem?_eq_some_iff.1 hj).1
  have h1:=hσ2 j tk[j] (List.getElem?_eq_getElem hlt);rw[hj]at h1;injection h1 with h1
  injection h1 with h2 h3
  exact⟨j,_,List.getElem?_eq_getElem hlt,h2,h3⟩
 have hβc:∀j t,tk[j]? =some t→βc (10000+j)=β t.name:=fun j t hj=>by
  show(match σ[10000+j-10000]? with|some (g,_)=>β g|none=>β (10000+j))=_;rw[Nat.add_sub_cancel_left,hσ2 j t hj]
 have hR:JD true σ β βc:=fun g g' hl=>by
  rcases hl with hl|⟨h1,_⟩
  ·obtain⟨j,t,h1,rfl,rfl⟩:=hσm g g' (tC hl);exact hβc j t h1
  ·cases h1
 have hI:Inv cx.w0 cx.F0 w (tk'.map (Tok.res cx βc)++(rest.map (Tok.res cx β)++fr)):=by
  have h1:=hH.iM hp;rw[List.map_append,List.append_assoc]at h1;exact h1.yu (iH (fun _ _ h F=>(h F).1) (ht cx β βc hR w))
 refine .inr ⟨f,_,Fy e1 rfl hok,?_⟩;refine(hq cx βc w _ _ hI ((hv cx β βc hR _).1 hx)).mono fun e w' hpost=> ?_
 obtain⟨x,βc',rfl,hag,hdr,hI'⟩:=hpost
 let β2:Nat→Value:=fun g=>if g % 1000000=d then βc' (10000+tk.length+g/1000000)else β g
 have hA:vM d β β2:=fun g hg=>by show(if g % 1000000=d then _ else β g)=β g;rw[if_neg hg]
 have hR2:JD true (vQ d σ 10000) βc' β2:=fun c g hl=>by
  rcases hl with hl|⟨h1,_⟩
  ·rcases yR (tC hl)with hm|⟨m,h1,h2,h3⟩
   ·obtain⟨j,t,k1,rfl,rfl⟩:=hσm g c hm;have hlt:j<tk.length:=(List.getElem?_eq_some_iff.1 k1).1;have hmem:t∈rs:=hp.mem_iff.2 (List.mem_append_left _ (List.mem_of_getElem? k1));have hne:=kN hf t hmem t.name (by cases t<;>simp[Tok.names,Tok.name]);rw[hA _ hne,hag (10000+j) (by omega) (by rw[htl];omega),hβc j t k1]
   ·show(if g % 1000000=d then βc' (10000+tk.length+g/1000000)else β g)=_;have e1:g % 1000000=d:=by rw[h3];omega
    have e2:g/1000000=m:=by rw[h3];omega
    rw[if_pos e1,e2,h2,hσ]
  ·cases h1
 refine⟨x,β2,rfl,hA,(hr cx βc' β2 hR2 x).1 hdr,?_⟩;rw[List.map_append,List.append_assoc];have h1:=hI'.yu (iH (fun _ _ h F=>(h F).1) (hts cx βc' β2 hR2 w'))
 have h2:Inv cx.w0 cx.F0 w' (rest.map (Tok.res cx β)++(ts''.map (Tok.res cx β2)++fr)):=h1.perm (by
  rw[←List.append_assoc,←List.append_assoc];exact List.perm_append_comm.append_right fr)
 have h3:=h2.beta (β':=β2) fun t ht g hg=>hA g (fO hf (fun t ht=>hp.mem_iff.2 (List.mem_append_right _ ht)) t ht g hg)
 exact h3.perm (by
  rw[←List.append_assoc,←List.append_assoc];exact List.perm_append_comm.append_right fr)
end
end Go.Tr
