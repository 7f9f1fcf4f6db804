
/- Regions whose order is open, by the flow of things: a valuation of any kind. No program in it. -/
import Derived.Test.YtpdipfohnpopmaaDoorSc
import Derived.Test.YtpdipfohnpopmaaDoorProg
import Derived.Lib.LaidTab
import Derived.Lib.ItoaNum
import Derived.Laws.BytesArg
set_option linter.unusedSimpArgs false
set_option linter.unusedVariables false
namespace Go.Tr
open Go Go.RowKit
structure Ad where
 prod:Option Nat
 cons:Option Nat
structure bM where
 rds:List (List Nat)
 labs:List Ad
 anc:List (List Nat)
def dW(fl:bM)(ops:Array Oper)(n i:Nat)(o:Oper)(A rd:List Nat):Bool:=
 o.after.all (fun e=> !Region.binds .any e||Nat.blt e.on i)&&
 A.all (fun j=>o.after.any fun e=>Region.binds .any e&&(e.on==j||yK fl.anc[e.on]? j))&&
 rd.all (fun ℓ=>match fl.labs[ℓ]? with
  |some b=>b.prod.all (fun p=>A.contains p)&&b.cons.all (fun c=>yK fl.anc[c]? i)
  |none=>false)&&
 (match o.dst with
  |some d=>Nat.blt d n&&(List.range ops.size).all (fun j=>j==i||(ops[j]?).bind (·.dst) !=some d)
  |none=>true)
def dN(fl:bM)(m:Nat)(b:Ad):Bool:=
 (match b.prod with
  |none=>true
  |some p=>Nat.blt p m)&&
 (match b.cons with
  |none=>true
  |some c=>Nat.blt c m&& !(b.prod==some c)&&b.prod.all (fun p=>yK fl.anc[c]? p))
def bM.good(fl:bM)(ops:Array Oper)(n:Nat):Bool:=
 fl.rds.length==ops.size&&fl.anc.length==ops.size&&
 (List.range ops.size).all (fun i=>match ops[i]?,fl.anc[i]?,fl.rds[i]? with
  |some o,some A,some s=>dW fl ops n i o A s
  |_,_,_=>false)&&
 fl.labs.all (dN fl ops.size)
def bM.av(fl:bM)(L:Array Bool)(ℓ:Nat):Bool:=match fl.labs[ℓ]? with
 |some b=>b.prod.all (fun p=>L.getD p false)&&b.cons.all (fun c=> !L.getD c false)
 |none=>false
def bM.dM(s:List Nat)(ℓ:Nat):Bool:=s.contains ℓ
def bM.bG(fl:bM)(i ℓ:Nat):Bool:=match fl.labs[ℓ]? with|some b=>b.cons==some i|none=>false
def bM.cZ(fl:bM)(i ℓ:Nat):Bool:=match fl.labs[ℓ]? with|some b=>b.prod==some i|none=>false
def bM.vJ(fl:bM)(ℓ:Nat):Bool:=match fl.labs[ℓ]? with|some b=>b.prod.isNone|none=>false
def bM.isFin(fl:bM)(ℓ:Nat):Bool:=match fl.labs[ℓ]? with|some b=>b.cons.isNone|none=>false
section
variable {ρ:Type}{P:Program}{ops:Array Oper}{fl:bM}{n:Nat}{w0:ρ->World}{F0:ρ->aK}{K C:Nat->ρ->Act->Prop}{B:ρ->Act->Prop}{R:Nat->ρ->aM}{Up:Nat->ρ->ρ->Prop}{fr:List aM}
def dO(fl:bM)(R:Nat->ρ->aM)(r:ρ)(p:Nat->Bool):List aM:=((List.range fl.labs.length).filter p).map (fun ℓ=>R ℓ r)
def PJ(ops:Array Oper)(fl:bM)(n:Nat)(w0:ρ->World)(F0:ρ->List Nat)(K C:Nat->ρ->Act->Prop)(B:ρ->Act->Prop)(R:Nat->ρ->aM)(fr:List aM)(L:Array Bool)(a:Act)(w:World):Prop:=∃r:ρ,
 (∀i,i<ops.size->L.getD i false=true->K i r a)/\(∀i,i<ops.size->L.getD i false=false->C i r a)/\B r a/\a.tmps.size=n/\a.defers=[]/\Inv (w0 r) (F0 r) w (dO fl R r (fl.av L)++fr)
def Cr(P:Program)(ops:Array Oper)(fl:bM)(n:Nat)(w0:ρ->World)(F0:ρ->List Nat)(K C:Nat->ρ->Act->Prop)(B:ρ->Act->Prop)(R:Nat->ρ->aM)(Up:Nat->ρ->ρ->Prop)(i:Nat):Prop:=
 ∀o A rd,ops[i]? =some o->fl.anc[i]? =some A->fl.rds[i]? =some rd->∀(r:ρ) (a:Act) (w:World) (R':List aM),B r a->a.tmps.size=n->a.defers=[]->(∀j∈A,K j r a)->(∀j,j<ops.size->(j=i\/∃D,fl.anc[j]? =some D/\i∈D)->C j r a)->Inv (w0 r) (F0 r) w (dO fl R r (bM.dM rd)++(dO fl R r (fl.bG i)++R'))->
  Gives P ops o a w fun v w'=>∃r',Up i r r'/\K i r' (a.put o.dst v)/\B r' (a.put o.dst v)/\Inv (w0 r') (F0 r') w' (dO fl R r' (bM.dM rd)++(dO fl R r' (fl.cZ i)++R'))
structure xJ(ops:Array Oper)(fl:bM)(K C:Nat->ρ->Act->Prop)(R:Nat->ρ->aM)(Up:Nat->ρ->ρ->Prop):Prop where
 k:∀i j A o r r' a v,ops[i]? =some o->fl.anc[j]? =some A->i≠j->i∉A->Up i r r'->K j r a->K j r' (a.put o.dst v)
 c:∀i j o r r' a v,ops[i]? =some o->j<ops.size->i≠j->Up i r r'->C j r a->C j r' (a.put o.dst v)
 l:∀i ℓ b r r',fl.labs[ℓ]? =some b->(∀p,b.prod=some p->p≠i/\∀A,fl.anc[p]? =some A->i∉A)->Up i r r'->∀w F,(R ℓ r).p w F->(R ℓ r').p w F
theorem eD(hg:fl.good ops n=true){i:Nat}{o:Oper}(ho:ops[i]? =some o):∃A s,fl.anc[i]? =some A/\fl.rds[i]? =some s/\dW fl ops n i o A s=true:=by
 unfold bM.good at hg;simp only[qD,List.all_eq_true]at hg;have hi:=(Array.getElem?_eq_some_iff.1 ho).1;have h:=hg.1.2 i (by simpa using hi);rw[ho]at h;cases hA:fl.anc[i]? with
 |none=>rw[hA]at h;simp at h
 |some A=>
  cases hs:fl.rds[i]? with
  |none=>rw[hA,hs]at h;simp at h
  |some s=>rw[hA,hs]at h;exact⟨A,s,rfl,rfl,h⟩
theorem fF(hg:fl.good ops n=true){ℓ:Nat}{b:Ad}(hb:fl.labs[ℓ]? =some b):dN fl ops.size b=true:=by
 unfold bM.good at hg;simp only[qD,List.all_eq_true]at hg;exact hg.2 b (List.mem_of_getElem? hb)
theorem kL(hg:fl.good ops n=true){L:Array Bool}(hc:Closed .any ops L):∀(i:Nat) (o:Oper) (A:aK),ops[i]? =some o->fl.anc[i]? =some A->(∀e∈o.after,Region.binds .any e=true->L.getD e.on false=true)->∀j∈A,L.getD j false=true:=by
 intro i
 induction i using Nat.strongRecOn with
 |_ i ih=>
  intro o A ho hA hall j hj;obtain⟨A',s,hA',hs,hgd⟩:=eD hg ho;rw[hA]at hA';injection hA' with hA'
  subst hA';unfold dW at hgd;simp only[qD,List.all_eq_true]at hgd;have h2:=hgd.1.1.2 j hj;rw[Array.any_eq_true']at h2;obtain⟨e,he,h3⟩:=h2;rw[qD,Bool.or_eq_true,beq_iff_eq]at h3;have hl:=hall e he h3.1;rcases h3.2 with h4|h4
  .rw[<-h4];exact hl
  .obtain⟨D,hD,hjD⟩:=dV h4
   have hlt:e.on<i:=by
    have h5:=hgd.1.1.1;rw[Array.all_eq_true_iff_forall_mem]at h5;have:=h5 e he;rw[h3.1]at this;simpa using this
   have hsz:e.on<ops.size:=by
    have:=(Array.getElem?_eq_some_iff.1 ho).1;omega
   exact ih e.on hlt ops[e.on] D (Array.getElem?_eq_getElem hsz) hD (hc e.on _ (Array.getElem?_eq_getElem hsz) hl) j hjD
theorem sQ(R:Nat->ρ->aM){r r':ρ}{w:World}:∀{l:aK},(∀ℓ∈l,∀F,(R ℓ r).p w F->(R ℓ r').p w F)->∀{X:List aM} {w1:World} {F1:aK},Inv w1 F1 w (l.map (fun ℓ=>R ℓ r)++X)->Inv w1 F1 w (l.map (fun ℓ=>R ℓ r')++X)
 |[],_,X,w1,F1,h=>h
 |ℓ::l,hk,X,w1,F1,h=>by
  have h1:Inv w1 F1 w (R ℓ r'::(l.map (fun ℓ=>R ℓ r)++X)):=Inv.weak h fun F hp=>⟨F,fun _ h=>h,hk ℓ (by simp) F hp⟩
  have h2:=sQ R (r:=r) (r':=r') (fun ℓ hℓ=>hk ℓ (by simp[hℓ])) (X:=R ℓ r'::X) (h1.perm List.perm_middle.symm);exact h2.perm List.perm_middle
theorem Ac(hg:fl.good ops n=true)(hst:xJ ops fl K C R Up){L:Array Bool}(hL:L.size=ops.size)(hc:Closed .any ops L){a:Act}{w:World}(hJ:PJ ops fl n w0 F0 K C B R fr L a w){i:Nat}(hr:i∈Region.ready .any ops L)(hob:Cr P ops fl n w0 F0 K C B R Up i)(Q:Exit->Act->World->Prop):
  wpOp P ops Q i (fun a' w'=>PJ ops fl n w0 F0 K C B R fr (L.setIfInBounds i true) a' w') a w:=by
 obtain⟨hun,o,ho,hall⟩:=mem_ready.1 hr;have hun':=pK hun;obtain⟨A,s,hA,hs,hgd⟩:=eD hg ho;have hancL:=kL hg hc i o A ho hA hall;obtain⟨r,h1,hC0,hB,hsz,hdf,hI⟩:=hJ;have hisz:i<L.size:=by rw[hL];exact(Array.getElem?_eq_some_iff.1 ho).1
 unfold dW at hgd;simp only[qD,List.all_eq_true]at hgd;obtain⟨⟨⟨hlt,hanc⟩,hrd⟩,hdst⟩:=hgd
 have hnot:∀(c:Nat) (oc:Oper) (D:List Nat),ops[c]? =some oc->fl.anc[c]? =some D->i∈D->L.getD c false=false:=by
  intro c oc D hoc hD hiD;cases hcl:L.getD c false with
  |false=>rfl
  |true=>
   have:=kL hg hc c oc D hoc hD (hc c oc hoc hcl) i hiD;rw[hun']at this;cases this
 have hopsOf:∀c,c<ops.size->∃oc,ops[c]? =some oc:=fun c h=>⟨_,Array.getElem?_eq_getElem h⟩
 have hperm:((List.range fl.labs.length).filter (fl.av L)).Perm ((List.range fl.labs.length).filter (bM.dM s)++((List.range fl.labs.length).filter (fl.bG i)++(List.range fl.labs.length).filter (fun ℓ=>fl.av L ℓ&& !bM.dM s ℓ&& !fl.bG i ℓ))):=by
  refine oW _ _ _ _ _ fun ℓ hℓ=> ?_
  have hℓ':ℓ<fl.labs.length:=by simpa using hℓ
  have hb:fl.labs[ℓ]? =some fl.labs[ℓ]:=qB hℓ';have hbg:=fF hg hb
  have k1:bM.dM s ℓ=true->fl.av L ℓ=true/\fl.bG i ℓ=false:=fun hr=>by
   unfold bM.dM at hr;have h3:=hrd ℓ (by simpa using hr);rw[hb]at h3;simp only[qD]at h3;refine⟨?_,?_⟩
   .unfold bM.av;rw[hb];simp only[qD];refine⟨?_,?_⟩
    .cases hp:fl.labs[ℓ].prod with
     |none=>rfl
     |some p=>
      rw[hp]at h3;exact hancL p (by simpa using h3.1)
    .cases hq:fl.labs[ℓ].cons with
     |none=>rfl
     |some c=>
      rw[hq]at h3;obtain⟨D,hD,hiD⟩:=dV h3.2;unfold dN at hbg;simp only[hq,qD]at hbg;obtain⟨oc,hoc⟩:=hopsOf c (by simpa using hbg.2.1.1);simp[hnot c oc D hoc hD hiD, -Array.getD_eq_getD_getElem?]
   .unfold bM.bG;rw[hb];show(fl.labs[ℓ].cons==some i)=false;cases hq:fl.labs[ℓ].cons with
    |none=>rfl
    |some c=>
     rw[hq]at h3;obtain⟨D,hD,hiD⟩:=dV h3.2;simp only[beq_eq_false_iff_ne,ne_eq,Option.some.injEq];rintro rfl;rw[hA]at hD;injection hD with hD
     subst hD;have:=hancL c hiD;rw[hun']at this;cases this
  have k2:fl.bG i ℓ=true->fl.av L ℓ=true:=fun hr=>by
   unfold bM.bG at hr;rw[hb]at hr;have hq:fl.labs[ℓ].cons=some i:=by simpa using hr
   unfold dN at hbg;simp only[hq,qD]at hbg;unfold bM.av;rw[hb];simp only[hq,qD,Option.all_some,hun',Bool.not_false,and_true];cases hp:fl.labs[ℓ].prod with
   |none=>rfl
   |some p=>
    rw[hp]at hbg;obtain⟨D,hD,hpD⟩:=dV hbg.2.2;rw[hA]at hD;injection hD with hD
    subst hD;exact hancL p hpD
  cases e1:bM.dM s ℓ<;>cases e2:fl.bG i ℓ<;>cases e3:fl.av L ℓ<;>simp_all
 have hI2:Inv (w0 r) (F0 r) w (dO fl R r (bM.dM s)++(dO fl R r (fl.bG i)++(dO fl R r (fun ℓ=>fl.av L ℓ&& !bM.dM s ℓ&& !fl.bG i ℓ)++fr))):=hI.perm (by
  have h2:=(hperm.map (fun ℓ=>R ℓ r)).append_right fr;rw[qZ,qZ,qF,qF]at h2;exact h2)
 refine(hob o A s ho hA hs r a w _ hB hsz hdf (fun j hj=>by
  have hjs:j<ops.size:=by
   have:=hancL j hj;rcases Nat.lt_or_ge j L.size with h|h
   .omega
   .simp[Array.getElem?_eq_none h]at this
  exact h1 j hjs (hancL j hj)) (fun j hjs hj=>hC0 j hjs (by
  rcases hj with rfl|⟨D,hD,hm⟩
  .exact hun'
  .obtain⟨oj,hoj⟩:=hopsOf j hjs;exact hnot j oj D hoj hD hm)) hI2).wpOp ho fun v w' ⟨r',hU,hk,hB',hI3⟩=> ?_
 have hself:(L.setIfInBounds i true).getD i false=true:=by simp[hisz]
 have hLi:∀j,(L.setIfInBounds i true).getD j false=true->j=i\/L.getD j false=true:=fun j hj=>by
  by_cases e:j=i
  .exact .inl e
  .exact .inr (su hj e)
 refine⟨r',fun j hjs hLj=> ?_,fun j hjs hLj=> ?_,hB',?_,(by cases o.dst<;>exact hdf),?_⟩
 .rcases hLi j hLj with rfl|hLj
  .exact hk
  .have hne:i≠j:=fun e=>by subst e;rw[hun']at hLj;cases hLj
   obtain⟨oj,hoj⟩:=hopsOf j hjs;obtain⟨D,sj,hD,_,_⟩:=eD hg hoj;refine hst.k i j D o r r' a v ho hD hne (fun hm=> ?_) hU (h1 j hjs hLj);have:=hnot j oj D hoj hD hm;rw[hLj]at this;cases this
 .have hne:i≠j:=fun e=>by subst e;rw[hself]at hLj;cases hLj
  exact hst.c i j o r r' a v ho hjs hne hU (hC0 j hjs (by rw[getD_set_ne false (fun e=>hne e)]at hLj;exact hLj))
 .cases hd:o.dst with
  |none=>exact hsz
  |some d=>show(a.tmps.setIfInBounds d v).size=n;simpa using hsz
 ·
  have hI4:Inv (w0 r') (F0 r') w' ((((List.range fl.labs.length).filter (fun ℓ=>fl.av L ℓ&& !bM.dM s ℓ&& !fl.bG i ℓ)).map (fun ℓ=>R ℓ r))++(dO fl R r' (bM.dM s)++(dO fl R r' (fl.cZ i)++fr))):=hI3.perm (by
   show(dO fl R r' (bM.dM s)++(dO fl R r' (fl.cZ i)++(_++fr))).Perm _;unfold dO;generalize ((List.range fl.labs.length).filter (fun ℓ=>fl.av L ℓ&& !bM.dM s ℓ&& !fl.bG i ℓ)).map (fun ℓ=>R ℓ r)=X;generalize ((List.range fl.labs.length).filter (bM.dM s)).map (fun ℓ=>R ℓ r')=Y;generalize ((List.range fl.labs.length).filter (fl.cZ i)).map (fun ℓ=>R ℓ r')=Z;have e1:(Y++(Z++(X++fr)))=((Y++Z)++X)++fr:=by simp
   have e2:(X++(Y++(Z++fr)))=(X++(Y++Z))++fr:=by simp
   rw[e1,e2];exact List.perm_append_comm.append_right fr)
  have hI5:=sQ R (r:=r) (r':=r') (fun ℓ hℓ=>by
   have hℓ2:=List.mem_filter.1 hℓ;have hℓ':ℓ<fl.labs.length:=by simpa using hℓ2.1
   have hb:fl.labs[ℓ]? =some fl.labs[ℓ]:=qB hℓ';have hav:=hℓ2.2;simp only[qD]at hav;have h3:=hav.1.1;unfold bM.av at h3;rw[hb]at h3;simp only[qD]at h3;refine hst.l i ℓ _ r r' hb (fun p hp=>⟨fun e=> ?_,fun D hD hm=> ?_⟩) hU w'
   .subst e;rw[hp]at h3;simp only[Option.all_some]at h3;rw[hun']at h3;cases h3.1
   .rw[hp]at h3;simp only[Option.all_some]at h3;have hbg:=fF hg hb;unfold dN at hbg;simp only[hp,qD]at hbg;obtain⟨op,hop⟩:=hopsOf p (by simpa using hbg.1);have:=hnot p op D hop hD hm;rw[h3.1]at this;cases this) hI4
  refine hI5.perm ?_;unfold dO
  have key:((List.range fl.labs.length).filter (fun ℓ=>fl.av L ℓ&& !bM.dM s ℓ&& !fl.bG i ℓ)++((List.range fl.labs.length).filter (bM.dM s)++(List.range fl.labs.length).filter (fl.cZ i))).Perm ((List.range fl.labs.length).filter (fl.av (L.setIfInBounds i true))):=by
   refine List.Perm.trans ?_ (List.Perm.symm (oW (fl.av (L.setIfInBounds i true)) (bM.dM s) (fl.cZ i) (fun ℓ=>fl.av L ℓ&& !bM.dM s ℓ&& !fl.bG i ℓ) _ fun ℓ hℓ=> ?_))
   .refine List.perm_append_comm.trans ?_;rw[qF]
   .have hℓ':ℓ<fl.labs.length:=by simpa using hℓ
    have hb:fl.labs[ℓ]? =some fl.labs[ℓ]:=qB hℓ';have hbg:=fF hg hb
    have hset:∀j,(L.setIfInBounds i true).getD j false=(decide (j=i)||L.getD j false):=fun j=>by
     by_cases e:j=i
     .subst e;rw[hself];simp
     .rw[getD_set_ne false (fun e'=>e e'.symm)];simp[e]
    have k1:bM.dM s ℓ=true->fl.av L ℓ=true/\fl.bG i ℓ=false/\fl.cZ i ℓ=false:=fun hr=>by
     have hmem:ℓ∈(List.range fl.labs.length).filter (bM.dM s):=List.mem_filter.2 ⟨hℓ,hr⟩;have hav:fl.av L ℓ=true:=(List.mem_filter.1 (hperm.mem_iff.2 (List.mem_append_left _ hmem))).2;refine⟨hav,?_,?_⟩
     .unfold bM.dM at hr;have h3:=hrd ℓ (by simpa using hr);rw[hb]at h3;simp only[qD]at h3;unfold bM.bG;rw[hb];show(fl.labs[ℓ].cons==some i)=false;cases hq:fl.labs[ℓ].cons with
      |none=>rfl
      |some c=>
       rw[hq]at h3;obtain⟨D,hD,hiD⟩:=dV h3.2;simp only[beq_eq_false_iff_ne,ne_eq,Option.some.injEq];rintro rfl;rw[hA]at hD;injection hD with hD
       subst hD;have:=hancL c hiD;rw[hun']at this;cases this
     .unfold bM.av at hav;unfold bM.cZ;rw[hb]at hav |-;simp only[qD]at hav;show(fl.labs[ℓ].prod==some i)=false;cases hp:fl.labs[ℓ].prod with
      |none=>rfl
      |some p=>
       rw[hp]at hav;simp only[beq_eq_false_iff_ne,ne_eq,Option.some.injEq];rintro rfl;have:=hav.1;simp only[Option.all_some]at this;rw[hun']at this;cases this
    have k3:fl.av (L.setIfInBounds i true) ℓ=((fl.av L ℓ&& !fl.bG i ℓ)||fl.cZ i ℓ):=by
     unfold bM.av bM.bG bM.cZ;rw[hb];simp only[hset];cases hp:fl.labs[ℓ].prod with
     |none=>
      cases hq:fl.labs[ℓ].cons with
      |none=>simp[-Array.getD_eq_getD_getElem?]
      |some c=>
       by_cases e:c=i
       .subst e;simp[-Array.getD_eq_getD_getElem?]
       .simp[e, -Array.getD_eq_getD_getElem?]
     |some p=>
      by_cases ep:p=i
      .subst ep;cases hq:fl.labs[ℓ].cons with
       |none=>simp[-Array.getD_eq_getD_getElem?]
       |some c=>
        unfold dN at hbg;simp only[hp,hq,qD,Option.all_some]at hbg;obtain⟨D,hD,hiD⟩:=dV hbg.2.2;obtain⟨oc,hoc⟩:=hopsOf c (by simpa using hbg.2.1.1);have h4:=hnot c oc D hoc hD hiD
        have hne:c≠p:=fun e=>by
         subst e;have:=hbg.2.1.2;simp at this
        simp[h4,hne, -Array.getD_eq_getD_getElem?]
      .cases hq:fl.labs[ℓ].cons with
       |none=>simp[ep, -Array.getD_eq_getD_getElem?]
       |some c=>
        by_cases e:c=i
        .subst e;simp[ep, -Array.getD_eq_getD_getElem?]
        .have e1:(c==i)=false:=by simpa using e
         have e2:(p==i)=false:=by simpa using ep
         simp[e1,e2,e,ep, -Array.getD_eq_getD_getElem?]
    have k4:fl.cZ i ℓ=true->fl.av L ℓ=false:=fun hr=>by
     unfold bM.cZ at hr;rw[hb]at hr;have hp:fl.labs[ℓ].prod=some i:=by simpa using hr
     unfold bM.av;rw[hb];simp[hp,hun', -Array.getD_eq_getD_getElem?]
    rw[k3];clear hperm hI hI2 hI3 hI4 hI5 hdst hanc hlt hrd h1 hob hnot hopsOf hset hself hLi k3 hk hB hB';generalize bM.dM s ℓ=x1 at*;generalize fl.bG i ℓ=x2 at*;generalize fl.av L ℓ=x3 at*;generalize fl.cZ i ℓ=x4 at*;clear hbg hb;cases x1<;>cases x2<;>cases x3<;>cases x4<;>simp at k1 k4 |-
  have k2:=(key.map (fun ℓ=>R ℓ r')).append_right fr;rw[qZ,qZ]at k2;simpa using k2
theorem uL{L:Array Bool}(hg:fl.good ops n=true)(hL:L.size=ops.size)(hr:Region.ready .any ops L=[]):∀i,i<ops.size->L.getD i false=true:=by
 intro i
 induction i using Nat.strongRecOn with
 |_ i ih=>
  intro hi;cases hl:L.getD i false with
  |true=>rfl
  |false=>
   exfalso;have ho:ops[i]? =some ops[i]:=Array.getElem?_eq_getElem hi;obtain⟨A,s,hA,hs,hgd⟩:=eD hg ho;unfold dW at hgd;simp only[qD,List.all_eq_true]at hgd
   have hmem:i∈Region.ready .any ops L:=mem_ready.2 ⟨by
    have hiL:i<L.size:=by omega
    simp[hiL]at hl |-
    exact hl,ops[i],ho,fun e he hb=>by
     have h5:=hgd.1.1.1;rw[Array.all_eq_true_iff_forall_mem]at h5;have:=h5 e he;rw[hb]at this;have hlt:e.on<i:=by simpa using this
     exact ih e.on hlt (by omega)⟩
   rw[hr]at hmem;cases hmem
theorem wV{Q:Exit->Act->World->Prop}(hg:fl.good ops n=true)(hst:xJ ops fl K C R Up)(hob:∀i,i<ops.size->Cr P ops fl n w0 F0 K C B R Up i)
  (hfin:∀L a w,(∀i,i<ops.size->L.getD i false=true)->PJ ops fl n w0 F0 K C B R fr L a w->Q .normal a w):
  ∀(fuel:Nat) (L:Array Bool) (a:Act) (w:World),L.size=ops.size->Closed .any ops L->(List.range ops.size).countP (fun i=> !L.getD i false)<=fuel->PJ ops fl n w0 F0 K C B R fr L a w->wpAny P .any ops Q fuel L a w:=by
 intro fuel
 induction fuel with
 |zero=>
  intro L a w hL hc hcnt hJ
  have hall:∀i,i<ops.size->L.getD i false=true:=fun i hi=>by
   have h0:(List.range ops.size).countP (fun i=> !L.getD i false)=0:=by omega
   rw[List.countP_eq_zero]at h0;have:=h0 i (by simpa using hi);simpa using this
  refine⟨?_,hfin L a w hall hJ⟩;rw[List.eq_nil_iff_forall_not_mem];intro i hi;obtain⟨h1,o,ho,_⟩:=mem_ready.1 hi;have h2:=hall i (Array.getElem?_eq_some_iff.1 ho).1;rw[pK h1]at h2;cases h2
 |succ fuel ih=>
  intro L a w hL hc hcnt hJ;refine⟨fun hr=>hfin L a w (uL hg hL hr) hJ,fun i hi=> ?_⟩;obtain⟨h1,o,ho,_⟩:=mem_ready.1 hi;have hio:=(Array.getElem?_eq_some_iff.1 ho).1;refine wpOp_mono (fun a' w' hJ'=> ?_) (Ac hg hst hL hc hJ hi (hob i hio) Q);refine ih _ a' w' (by simp[hL]) (hc.set hi) ?_ hJ';have hun:=pK h1
  have hlt:(List.range ops.size).countP (fun j=> !(L.setIfInBounds i true).getD j false)<(List.range ops.size).countP (fun j=> !L.getD j false):=by
   have key:∀l:List Nat,(l.countP (fun j=> !(L.setIfInBounds i true).getD j false)<=l.countP (fun j=> !L.getD j false))/\(i∈l->l.countP (fun j=> !(L.setIfInBounds i true).getD j false)<l.countP (fun j=> !L.getD j false)):=by
    intro l
    induction l with
    |nil=>simp
    |cons x l ihl=>
     by_cases e:x=i
     .subst e;have hs:(L.setIfInBounds x true).getD x false=true:=by simp[show x<L.size by omega]
      rw[List.countP_cons,List.countP_cons,hs,hun];simp;have:=ihl.1;simp at this;omega
     .have hs:(L.setIfInBounds i true).getD x false=L.getD x false:=getD_set_ne false (fun e'=>e e'.symm);rw[List.countP_cons,List.countP_cons,hs];refine⟨by have:=ihl.1;omega,fun hm=> ?_⟩
      have hm':i∈l:=by
       rcases List.mem_cons.1 hm with h|h
       .exact absurd h.symm e
       .exact h
      have:=ihl.2 hm';omega
   exact(key _).2 (by simpa using hio)
  omega
theorem zW{id:Nat}{Q:Exit->Act->World->Prop}{a:Act}{w:World}{l:List Oper}(hm:P.follows .mixedOrders=true)(fl:bM){r0:ρ}(hB:B r0 a)(hC:∀j,j<l.length->C j r0 a)(hsz:a.tmps.size=n)(hdf:a.defers=[])(hI:Inv (w0 r0) (F0 r0) w (dO fl R r0 fl.vJ++fr))
  (hg:fl.good l.toArray n=true) (hst:xJ l.toArray fl K C R Up) (hob:∀i,i<l.length->Cr P l.toArray fl n w0 F0 K C B R Up i)
  (hfin:∀(r:ρ) a w,B r a->a.tmps.size=n->a.defers=[]->(∀i,i<l.length->K i r a)->Inv (w0 r) (F0 r) w (dO fl R r fl.isFin++fr)->Q .normal a w):
  (Code.region id l.toArray true).wp P Q a w:=by
 refine wp_region_any hm ?_;refine wV (fl:=fl) (n:=n) (w0:=w0) (F0:=F0) (fr:=fr) hg hst (fun i hi=>hob i (by simpa using hi)) (fun L a w hall hJ=> ?_) _ _ a _ (by simp) ?_ ?_ ?_
 .obtain⟨r,h1,_,h2,h3,h4,hI⟩:=hJ;refine hfin r a w h2 h3 h4 (fun i hi=>h1 i (by simpa using hi) (hall i (by simpa using hi))) (hI.perm ?_);refine List.Perm.of_eq ?_;unfold dO
  congr 2
  refine List.filter_congr fun ℓ hℓ=> ?_
  have hℓ':ℓ<fl.labs.length:=by simpa using hℓ
  have hb:fl.labs[ℓ]? =some fl.labs[ℓ]:=qB hℓ';have hbg:=fF hg hb;unfold bM.av bM.isFin;rw[hb];unfold dN at hbg;simp only[];cases hq:fl.labs[ℓ].cons with
  |none=>
   cases hp:fl.labs[ℓ].prod with
   |none=>simp
   |some p=>
    simp only[hp,hq,qD]at hbg;simp[hall p (by have:=hbg.1;simpa using this), -Array.getD_eq_getD_getElem?]
  |some c=>
   simp only[hq,qD]at hbg;simp[hall c (by have:=hbg.2.1.1;simpa using this), -Array.getD_eq_getD_getElem?]
 .intro x o ho hx;simp at hx;exfalso;rcases Nat.lt_or_ge x l.length with h|h
  .simp[h]at hx
  .simp[Nat.not_lt.2 h]at hx
 .refine Nat.le_trans List.countP_le_length ?_;simp
 .refine⟨r0,fun i hi hl=> ?_,fun i hi _=>hC i (by simpa using hi),hB,hsz,hdf,?_⟩
  .exfalso;rcases Nat.lt_or_ge i l.length with h|h
   .simp[h]at hl
   .simp[Nat.not_lt.2 h]at hl
  .refine Inv.perm (hI.ext ((Below.refl _ _).drew)) ?_;unfold dO;refine List.Perm.of_eq ?_
   congr 2
   refine List.filter_congr fun ℓ hℓ=> ?_
   have hℓ':ℓ<fl.labs.length:=by simpa using hℓ
   have hb:fl.labs[ℓ]? =some fl.labs[ℓ]:=qB hℓ'
   have hgd:∀j,(Array.replicate l.toArray.size false).getD j false=false:=fun j=>by
    rw[Array.getD_eq_getD_getElem?];cases h:(Array.replicate l.toArray.size false)[j]? with
    |none=>rfl
    |some b=>
     rw[Array.getElem?_replicate]at h;split at h
     .injection h with h;subst h;rfl
     .cases h
   unfold bM.av bM.vJ;rw[hb];cases hp:fl.labs[ℓ].prod with
   |none=>cases hq:fl.labs[ℓ].cons<;>simp only[hp,hq,Option.all_none,Option.all_some,hgd]<;>rfl
   |some p=>simp only[hp,Option.all_some,hgd];rfl
end
end Go.Tr
namespace Go.Tr
open Go Go.RowKit
def EM (w0 : World) (F0 : List Nat) : Prop := Lib.TabIs Go.Proofs.Tryd.prog w0 "internal/strconv.uint64pow10" .u64 Lib.pow10Tab /\ (∃ tp p, w0.var? Go.Proofs.Tryd.prog "strconv.ErrSyntax" = some #[.iface tp p]) /\ (∀ g, Go.Proofs.Tryd.prog.globalNamed "internal/strconv.uint64pow10" = some g -> g ∉ F0) /\ ∀ g, Go.Proofs.Tryd.prog.globalNamed "strconv.ErrSyntax" = some g -> g ∉ F0
class GT (w0:World) (F0:List Nat):Prop where
 ok:EM w0 F0
theorem tN{P:Program}{n:String}{w0 w:World}{F0 F:aK}{v:Array Value}(h:w0.var? P n=some v)(hc:iH F0 w0 w)(hF:∀b∈F,b∈F0\/w0.heap.size<=b)(hg:∀g,P.globalNamed n=some g->g∉F0):w.var? P n=some v/\∀g,P.globalNamed n=some g->g∉F:=by
 unfold World.var? at h |-;cases hn:P.globalNamed n with
 |none=>rw[hn]at h;cases h
 |some g=>
  rw[hn]at h;simp only[Option.bind_some]at h |-
  have hlt:g<w0.heap.size:=by
   rcases Nat.lt_or_ge g w0.heap.size with h'|h'
   .exact h'
   .rw[Array.getElem?_eq_none h']at h;cases h
  have hn0:=hg g hn;refine⟨by rw[hc.other g hlt hn0];exact h,fun g' e hm=> ?_⟩;injection e with e
  subst e;rcases hF _ hm with h1|h1
  .exact hn0 h1
  .omega
theorem GT.at_{w0 w:World}{F0 F:aK}(h:GT w0 F0)(hc:iH F0 w0 w)(hF:∀b∈F,b∈F0\/w0.heap.size<=b):GT w F:=by
 obtain⟨h1,⟨tp,p,h2⟩,h3,h4⟩:=h.ok;obtain⟨k1,k2⟩:=tN h1 hc hF h3;obtain⟨k3,k4⟩:=tN h2 hc hF h4;exact⟨k1,⟨tp,p,k3⟩,k2,k4⟩
universe u
inductive Tree(α:Type) where
 |node (x:α) (l:List (Tree α))
def Tree.val{α:Type}:Tree α->α
 | .node x _=>x
def Tree.kids{α:Type}:Tree α->List (Tree α)
 | .node _ l=>l
mutual
def wJ{α:Type}(f:α->List D):Tree α->List D
 | .node x l=>f x++[.sl l.length (rU f l)]
def rU{α:Type}(f:α->List D):List (Tree α)->List D
 |[]=>[]
 |t::l=>wJ f t++rU f l
end
theorem rV{α:Type}{f:α->List D}:∀{l:List (Tree α)},rU f l=l.flatMap (wJ f)
 |[]=>by unfold rU;rfl
 |t::l=>by unfold rU;rw[rV (l:=l),qU]
inductive U where
 |int (k:IntKind)
 |bool
 |str
 |pair (a b:U)
 |any
 |sl (e:U)
 |tree (e:U)
 deriving DecidableEq
@[reducible] def El : U -> Type
 | .int _=>Int
 | .bool=>Bool
 | .str=>ByteArray
 | .any=>Value
 | .pair a b=>El a×El b
 | .sl e=>List (El e)
 | .tree e=>Tree (El e)
def U.size:U->Nat
 | .pair a b=>a.size+b.size
 | .tree a=>a.size+1
 |_=>1
def enc:(u:U)->El u->List D
 | .int k,x=>[.v (.int k x)]
 | .bool,x=>[.v (.bool x)]
 | .str,x=>[.v (.string x)]
 | .any,x=>[.v x]
 | .pair a b,x=>enc a x.1++enc b x.2
 | .sl e,xs=>[.sl (List.length (α:=El e) xs) (List.flatMap (enc e) xs)]
 | .tree e,x=>wJ (enc e) x
def dflt:(u:U)->El u
 | .int _=>(0:Int)
 | .bool=>false
 | .str=>⟨#[]⟩
 | .any=>undef
 | .pair a b=>(dflt a,dflt b)
 | .sl _=>[]
 | .tree e=>.node (dflt e) []
def elt{α:Type}(d:α)(xs:List α)(i:Int):α:=xs.getD i.toNat d
structure UE where
 u:U
 x:El u
def jo:Nat->Nat->(u:U)->El u->Option UE
 |0,1,u,x=>some ⟨u,x⟩
 |0,_+2,.pair a _,x=>some ⟨a,x.1⟩
 |i+1,m+2,.pair _ b,x=>jo i (m+1) b x.2
 |i,m+2,.tree e,x=>bif Nat.beq i (m+1)then some ⟨.sl (.tree e),Tree.kids x⟩else jo i (m+1) e (Tree.val x)
 |_,_,_,_=>none
def dJ:Nat->Nat->U->Nat
 |i+1,m+2,.pair a b=>a.size+dJ i (m+1) b
 |i,m+2,.tree e=>bif Nat.beq i (m+1)then e.size else dJ i (m+1) e
 |_,_,_=>0
def uh:Nat->Nat->U->Nat
 |0,1,u=>u.size
 |0,_+2,.pair a _=>a.size
 |i+1,m+2,.pair _ b=>uh i (m+1) b
 |i,m+2,.tree e=>bif Nat.beq i (m+1)then 1 else uh i (m+1) e
 |_,_,_=>0
def placesOf(P:Program)(t:Nat):Option (List (Nat×Nat)):=match P.underlying t with
 |some (.struct fields)=>fields.toList.mapM fun f=>(P.info? f.type).map fun i=>(f.offset,i.size)
 |_=>none
inductive SV where
 |int (k:IntKind) (i:Int)
 |bool (b:Bool)
 |raw (v:Value)
 |rsl (e:U) (xs:List (El e))
 |rp (u:U) (x:El u)
 |ptr (g o:Nat)
 |sl (g:Nat)
 |ep (g s:Nat) (i:Int) (o:Nat)
 |agg (l:List SV)
 |tup (l:List SV)
 |fn (f:Nat) (l:List SV)
 |un
 |gd (d:Nat) (b:Bool) (v:SV)
 |nh (k:Int) (o n:Nat) (hdr:Value)
 |np (k:Int) (o n:Nat) (hdr:Value) (s:Nat) (i:Int) (j:Nat)
 |mp (g:Nat)
 |nn (e:U) (xs:List (El e))
 |sx (g s lo n:Nat)
inductive Tok where
 |dn (g:Nat) (t:TypeId) (cs:List SV)
 |row (g:Nat) (t:TypeId) (s:Nat) (u:U) (xs:List (El u)) (us:List Value)
 |map (g:Nat) (u:U) (kv:List (Int×El u))
 |nest (g:Nat) (u:U) (xs:List (El u)) (us:List Value)
 |dat (g:Nat) (t:TypeId) (s:Nat) (u:U) (xs:List (El u))
 |pmap (g:Nat) (kv:List ((Int×Int)×Bool))
 |suf (g:Nat) (t:TypeId) (s:Nat) (u:U) (xs:List (El u))
abbrev Ev:=List (Nat×SV)
def lk{α:Type u}:List (Nat×α)->Nat->Option α
 |[],_=>none
 |(k,v)::l,t=>bif Nat.beq t k then some v else lk l t
def nth{α:Type u}:List α->Nat->Option α
 |[],_=>none
 |x::_,0=>some x
 |_::l,n+1=>nth l n
def dG{α:Type u}:Nat->List α->List α
 |0,l=>l
 |_,[]=>[]
 |n+1,_::l=>dG n l
def takeN{α:Type u}:Nat->List α->Option (List α)
 |0,_=>some []
 |_,[]=>none
 |n+1,x::l=>match takeN n l with|some r=>some (x::r)|none=>none
def aW:(u:U)->El u->List SV
 | .int k,x=>[.int k x]
 | .bool,x=>[.bool x]
 | .str,x=>[.raw (.string x)]
 | .any,x=>[.raw x]
 | .pair a b,x=>aW a x.1++aW b x.2
 | .sl e,xs=>[.rsl e xs]
 | .tree e,x=>aW e (Tree.val x)++[.rsl (.tree e) (Tree.kids x)]
def bf:U->Bool
 | .pair a b=>bf a&&bf b
 | .sl _=>false
 | .tree _=>false
 |_=>true
inductive gI where
 |sc (z:SV)
 |bool
 |ptr (e:Nat)
 |st (m size:Nat) (u:U) (zs:List SV)
 |sl (e s:Nat) (u:U)
 |mp (u:U)
 |mp2
abbrev TI:=List (Nat×gI)
def iO:SV->Value
 | .int k i=>.int k i
 | .bool b=>.bool b
 | .raw v=>v
 |_=>.tuple #[]
def kg:SV->Bool
 | .int _ _=>true
 | .bool _=>true
 | .raw v=>v.oneCell'
 |_=>false
def eH:gI->List SV
 | .sc z=>[z]
 | .bool=>[.bool false]
 | .ptr _=>[.raw (.pointer none)]
 | .st _ _ _ zs=>zs
 | .sl _ _ _=>[.raw (.slice none 0 0)]
 | .mp _=>[.raw (.map none)]
 | .mp2=>[.raw (.map none)]
def wE:Value->Value->Bool
 | .int k i,.int k' j=>k==k'&&i==j
 | .bool a,.bool b=>a==b
 | .string a,.string b=>a.data==b.data
 | .pointer none,.pointer none=>true
 | .slice none 0 0,.slice none 0 0=>true
 | .map none,.map none=>true
 | .nilFunc,.nilFunc=>true
 | .nilIface,.nilIface=>true
 |_,_=>false
def eG:List Value->List Value->Bool
 |[],[]=>true
 |a::l,b::m=>wE a b&&eG l m
 |_,_=>false
def aR:U->List Value
 | .int k=>[.int k 0]
 | .bool=>[.bool false]
 | .str=>[.string ⟨#[]⟩]
 | .any=>[]
 | .pair a b=>aR a++aR b
 | .sl _=>[.slice none 0 0]
 | .tree e=>aR e++[.slice none 0 0]
def jI:(u:U)->El u->Value
 | .int k,x=>.int k x
 | .bool,x=>.bool x
 | .pair (.int k) (.int l),x=>.agg #[.int k x.1,.int l x.2]
 |_,_=>undef
def u1:U->Bool
 | .int _=>true
 | .bool=>true
 | .pair (.int _) (.int _)=>true
 |_=>false
def uZ:Value->Value->Bool
 | .agg a,.agg b=>eG a.toList b.toList
 |a,b=>wE a b
def fu (P : Program) (t n : Nat) : Bool := !P.stoodInHeld t && (!P.eqGuardType P.depth t && ((match P.underlying t with | some (.struct _) => true | _ => false) && (((P.fieldsOf t).toList.all fun f => f.name != "_" && (match P.underlying f.type with | some (.int .i64) => true | _ => false)) && ((P.fieldsOf t).toList.map (·.offset) == List.range' 0 n && (P.fieldsOf t).toList.length == n))))
def eX(P:Program)(t:Nat)(x:gI):Bool:=
 ((eH x).all kg&&(match zeroOf P t with|some zs=>eG zs ((eH x).map iO)|none=>false)&&(P.info? t).map (·.size)==some (eH x).length)&&(match x with
 | .sc z=>eZ P t==some false&&(match z with| .int k _=>(match P.underlying t with|some (.int k')=>k==k'|_=>false)| .raw (.string _)=>(match P.underlying t with|some .string=>true|_=>false)|_=>true)
 | .bool=>eZ P t==some false&&(match P.underlying t with|some .bool=>true|_=>false)
 | .ptr _=>eZ P t==some false
 | .sl e s u=>eZ P t==some false&&bg P t==some (e,s)&&Nat.beq u.size s&&Nat.blt 0 s&&(P.info? e).map (fun i=>(i.zero.map (·.cells.size),i.size,decide (i.bytes<=1000)))==some (some s,s,true)
 | .mp u=>eZ P t==some false&&u1 u&&(match P.underlying t with|some (.map k e)=>(match P.underlying k with|some (.int .i64)=>true|_=>false)&&(match(P.info? e).bind (·.zero)with|some z=>uZ z (jI u (dflt u))|none=>false)|_=>false)
 | .mp2=>eZ P t==some false&&(match P.underlying t with|some (.map k e)=>fu P k 2&&(match(P.info? e).bind (·.zero)with|some (.bool b)=> !b|_=>false)|_=>false)
 | .st m size u _=>eZ P t==some true&&(P.info? t).map (·.size)==some size&&Nat.beq u.size size&&((List.range m).all fun i=>pE P t i==some (dJ i m u))&&placesOf P t==some ((List.range m).map fun i=>(dJ i m u,uh i m u)))
def bE(P:Program)(ti:TI):Bool:=ti.all fun x=>eX P x.1 x.2
def gH:U->U->Bool
 | .int k,.int k'=>k==k'
 | .bool,.bool=>true
 | .str,.str=>true
 | .any,.any=>true
 | .pair a b,.pair c d=>gH a c&&gH b d
 | .sl a,.sl b=>gH a b
 | .tree a,.tree b=>gH a b
 |_,_=>false
theorem aB:∀{u v:U},gH u v=true->u=v
 | .int _,.int _,h=>by simp only[gH,beq_iff_eq]at h;rw[h]
 | .bool,.bool,_| .str,.str,_| .any,.any,_=>rfl
 | .pair a b,.pair c d,h=>by
  simp only[gH,qD]at h;rw[aB h.1,aB h.2]
 | .sl a,.sl b,h=>by simp only[gH]at h;rw[aB h]
 | .tree a,.tree b,h=>by simp only[gH]at h;rw[aB h]
 | .tree _,.int _,h| .tree _,.bool,h| .tree _,.str,h| .tree _,.any,h| .tree _,.pair _ _,h| .tree _,.sl _,h=>by cases h
 | .int _,.tree _,h| .bool,.tree _,h| .str,.tree _,h| .any,.tree _,h| .pair _ _,.tree _,h| .sl _,.tree _,h=>by cases h
 | .int _,.bool,h| .int _,.str,h| .int _,.any,h| .int _,.pair _ _,h| .int _,.sl _,h=>by cases h
 | .bool,.int _,h| .bool,.str,h| .bool,.any,h| .bool,.pair _ _,h| .bool,.sl _,h=>by cases h
 | .str,.int _,h| .str,.bool,h| .str,.any,h| .str,.pair _ _,h| .str,.sl _,h=>by cases h
 | .any,.int _,h| .any,.bool,h| .any,.str,h| .any,.pair _ _,h| .any,.sl _,h=>by cases h
 | .pair _ _,.int _,h| .pair _ _,.bool,h| .pair _ _,.str,h| .pair _ _,.any,h| .pair _ _,.sl _,h=>by cases h
 | .sl _,.int _,h| .sl _,.bool,h| .sl _,.str,h| .sl _,.any,h| .sl _,.pair _ _,h=>by cases h
inductive R where
 |no
 |ok (v:SV)
 |vc (p:Prop) (v:SV)
 |ex (f:Nat->R)
def evs(env:Ev)(g:Option (Nat×Bool)):Operand->Option SV
 | .tmp t=>match lk env t with
  |some (.gd d b v)=>match g with
   |some (d',b')=>bif Nat.beq d d'&&(b==b')then some v else none
   |none=>none
  |r=>r
 | .const v=>match v with
  | .int k i=>some (.int k i)
  | .bool b=>some (.bool b)
  | .string s=>some (.raw (.string s))
  | .pointer none=>some (.raw (.pointer none))
  | .slice none 0 0=>some (.raw (.slice none 0 0))
  |_=>none
 | .func f=>some (.fn f [])
 |_=>none
def oU(env:Ev)(g:Option (Nat×Bool)):List Operand->Option (List SV)
 |[]=>some []
 |x::l=>match evs env g x,oU env g l with
  |some v,some r=>some (v::r)
  |_,_=>none
def Aq(env:Ev)(g g':Option (Nat×Bool))(x:Operand):Option SV:=match evs env g' x with
 |some v=>some v
 |none=>evs env g x
def BQ(o:BinOp)(k k':IntKind)(i j:Int):R:=match o with
 | .shr=>.vc (0<=j) (.int k (i.fdiv (2 ^ (min j.toNat k.bits))))
 | .shl=>.vc (0<=j) (.int k (k.wrap (i*2 ^ (min j.toNat k.bits))))
 |o=>bif k==k' then(match o with
  | .add=>.ok (.int k (k.wrap (i+j)))
  | .sub=>.ok (.int k (k.wrap (i-j)))
  | .mul=>.ok (.int k (k.wrap (i*j)))
  | .quo=>.vc (j≠0) (.int k (k.wrap (i.tdiv j)))
  | .rem=>.vc (j≠0) (.int k (i.tmod j))
  | .and=>.ok (.int k (bits .and k i j))
  | .or=>.ok (.int k (bits .or k i j))
  | .xor=>.ok (.int k (bits .xor k i j))
  | .lss=>.ok (.bool (decide (i<j)))
  | .leq=>.ok (.bool (decide (i<=j)))
  | .gtr=>.ok (.bool (decide (j<i)))
  | .geq=>.ok (.bool (decide (j<=i)))
  | .eql=>.ok (.bool (i==j))
  | .neq=>.ok (.bool (i !=j))
  |_=>.no)else .no
def BP(o:BinOp)(a b:ByteArray):R:=match o with
 | .add=>.vc (a.size+b.size<=1099511627776) (.raw (.string (a++b)))
 | .eql=>.ok (.bool (decide (a=b)))
 | .neq=>.ok (.bool (!decide (a=b)))
 |_=>.no
def BO:BinOp->SV->SV->R
 | .add,.int .i64 i,.int .i64 j=>.ok (.int .i64 (IntKind.i64.wrap (i+j)))
 | .sub,.int .i64 i,.int .i64 j=>.ok (.int .i64 (IntKind.i64.wrap (i-j)))
 | .mul,.int .i64 i,.int .i64 j=>.ok (.int .i64 (IntKind.i64.wrap (i*j)))
 | .quo,.int .i64 i,.int .i64 j=>.vc (j≠0) (.int .i64 (IntKind.i64.wrap (i.tdiv j)))
 | .rem,.int .i64 i,.int .i64 j=>.vc (j≠0) (.int .i64 (i.tmod j))
 | .lss,.int .i64 i,.int .i64 j=>.ok (.bool (decide (i<j)))
 | .leq,.int .i64 i,.int .i64 j=>.ok (.bool (decide (i<=j)))
 | .gtr,.int .i64 i,.int .i64 j=>.ok (.bool (decide (j<i)))
 | .geq,.int .i64 i,.int .i64 j=>.ok (.bool (decide (j<=i)))
 | .eql,.int .i64 i,.int .i64 j=>.ok (.bool (i==j))
 | .neq,.int .i64 i,.int .i64 j=>.ok (.bool (i !=j))
 |o,.int k i,.int k' j=>BQ o k k' i j
 |o,.raw (.string a),.raw (.string b)=>BP o a b
 |_,_,_=>.no
def bU:List Tok->Nat->Option (List SV)
 |[],_=>none
 | .dn g _ cs::l,k=>bif Nat.beq g k then some cs else bU l k
 | .row _ _ _ _ _ _::l,k=>bU l k
 | .map _ _ _::l,k=>bU l k
 | .nest _ _ _ _::l,k=>bU l k
 | .dat _ _ _ _ _::l,k=>bU l k
 | .pmap _ _::l,k=>bU l k
 | .suf _ _ _ _ _::l,k=>bU l k
structure rA where
 t:TypeId
 s:Nat
 u:U
 xs:List (El u)
 us:List Value
def rowOf:List Tok->Nat->Option rA
 |[],_=>none
 | .row g t s u xs us::l,k=>bif Nat.beq g k then some ⟨t,s,u,xs,us⟩else rowOf l k
 | .dn _ _ _::l,k=>rowOf l k
 | .map _ _ _::l,k=>rowOf l k
 | .nest _ _ _ _::l,k=>rowOf l k
 | .dat _ _ _ _ _::l,k=>rowOf l k
 | .pmap _ _::l,k=>rowOf l k
 | .suf g t s u xs::l,k=>bif Nat.beq g k then some ⟨t,s,u,xs,[]⟩else rowOf l k
def isRow:List Tok->Nat->Bool
 |[],_=>false
 | .row g _ _ _ _ _::l,k=>bif Nat.beq g k then true else isRow l k
 | .suf g _ _ _ _::l,k=>bif Nat.beq g k then false else isRow l k
 | .dn _ _ _::l,k=>isRow l k
 | .map _ _ _::l,k=>isRow l k
 | .nest _ _ _ _::l,k=>isRow l k
 | .dat _ _ _ _ _::l,k=>isRow l k
 | .pmap _ _::l,k=>isRow l k
structure Aa where
 t:TypeId
 s:Nat
 u:U
 xs:List (El u)
def bP:List Tok->Nat->Option Aa
 |[],_=>none
 | .dat g t s u xs::l,k=>bif Nat.beq g k then some ⟨t,s,u,xs⟩else bP l k
 | .row _ _ _ _ _ _::l,k=>bP l k
 | .dn _ _ _::l,k=>bP l k
 | .map _ _ _::l,k=>bP l k
 | .nest _ _ _ _::l,k=>bP l k
 | .pmap _ _::l,k=>bP l k
 | .suf _ _ _ _ _::l,k=>bP l k
structure BK where
 u:U
 kv:List (Int×El u)
def mapOf:List Tok->Nat->Option BK
 |[],_=>none
 | .map g u kv::l,k=>bif Nat.beq g k then some ⟨u,kv⟩else mapOf l k
 | .dn _ _ _::l,k=>mapOf l k
 | .row _ _ _ _ _ _::l,k=>mapOf l k
 | .nest _ _ _ _::l,k=>mapOf l k
 | .dat _ _ _ _ _::l,k=>mapOf l k
 | .pmap _ _::l,k=>mapOf l k
 | .suf _ _ _ _ _::l,k=>mapOf l k
def bR:List Tok->Nat->Option (List ((Int×Int)×Bool))
 |[],_=>none
 | .pmap g kv::l,k=>bif Nat.beq g k then some kv else bR l k
 | .map _ _ _::l,k=>bR l k
 | .dn _ _ _::l,k=>bR l k
 | .row _ _ _ _ _ _::l,k=>bR l k
 | .nest _ _ _ _::l,k=>bR l k
 | .dat _ _ _ _ _::l,k=>bR l k
 | .suf _ _ _ _ _::l,k=>bR l k
def sJ:List ((Int×Int)×Bool)->Int×Int->Bool
 |[],_=>false
 |(k,v)::l,i=>bif k.1==i.1&&k.2==i.2 then v else sJ l i
def nN:List ((Int×Int)×Bool)->Int×Int->Bool->List ((Int×Int)×Bool)
 |[],i,x=>[(i,x)]
 |(k,v)::l,i,x=>bif k.1==i.1&&k.2==i.2 then(k,x)::l else(k,v)::nN l i x
def iJ{α:Type u}(d:α):List (Int×α)->Int->α
 |[],_=>d
 |(k,v)::l,i=>bif k==i then v else iJ d l i
def l6{α:Type u}:List (Int×α)->Int->Bool
 |[],_=>false
 |(k,_)::l,i=>bif k==i then true else l6 l i
def nZ{α:Type u}:List (Int×α)->Int->α->List (Int×α)
 |[],i,x=>[(i,x)]
 |(k,v)::l,i,x=>bif k==i then(k,x)::l else(k,v)::nZ l i x
def zY(us:List Value)(k:Int)(s o:Nat):List SV->List SV
 |[]=>[]
 |v::l=>match v with
  | .rsl e ys=>.nh k o (List.length (α:=El e) ys) (us.getD (k.toNat*s+o) undef)::zY us k s (o+1) l
  |v=>v::zY us k s (o+1) l
def pV(u:U)(x:El u)(o:Nat):Option UE:=match nth (aW u x) o with
 |some (.rsl e ys)=>some ⟨.sl e,ys⟩
 |_=>none
def dw:List SV->Bool
 |[]=>true
 |v::l=>match v with
  | .int _ _=>dw l
  | .bool _=>dw l
  | .raw _=>dw l
  |_=>false
def gq:List SV->Bool
 |[]=>true
 |v::l=>match v with
  | .int _ _=>gq l
  | .bool _=>gq l
  | .raw _=>gq l
  | .rsl _ _=>gq l
  |_=>false
def sG{α:Type}(xs:List α)(us:List Value)(k:Int)(s o:Nat)(hdr:Value):Prop:=0<=k/\k<(xs.length:Nat)/\us[k.toNat*s+o]? =some hdr
def yQ(ti:TI)(rs:List Tok)(t:Nat):SV->R
 | .rp u x=>match lk ti t with
  |some (.st _ n _ _)=>bif Nat.beq u.size n then .ok (.agg (aW u x))else .no
  |some _=>match aW u x with|[v]=>.ok v|_=>.no
  |none=>.no
 | .ptr g o=>match bU rs g with
  |some cs=>match lk ti t with
   |some (.st _ n _ _)=>match takeN n (dG o cs)with|some l=>.ok (.agg l)|none=>.no
   |some _=>match nth cs o with|some v=>.ok v|none=>.no
   |none=>.no
  |none=>.no
 | .ep g s i o=>match rowOf rs g with
  |some ⟨_,s',u,xs,us⟩=>bif Nat.beq s s' then(match lk ti t with
   |some (.st _ n _ _)=>match takeN n (dG o (aW u (elt (dflt u) xs i)))with|some l=>bif dw l then .ok (.agg l)else bif gq l then .vc (i.toNat*s+s<=us.length) (.agg (zY us i s o l))else .no|none=>.no
   |some _=>match nth (aW u (elt (dflt u) xs i)) o with|some v=>bif dw [v]then .ok v else bif gq [v]then(match zY us i s o [v]with|[v']=>.vc (i.toNat*s+s<=us.length) v'|_=>.no)else .no|none=>.no
   |none=>.no)else .no
  |none=>match bP rs g with
   |some ⟨_,s',u,xs⟩=>bif Nat.beq s s' then(match lk ti t with
    |some (.st _ n _ _)=>match takeN n (dG o (aW u (elt (dflt u) xs i)))with|some l=>.ok (.agg l)|none=>.no
    |some _=>match nth (aW u (elt (dflt u) xs i)) o with|some v=>.ok v|none=>.no
    |none=>.no)else .no
   |none=>.no
 | .np k o n hdr s2 i j=>.ex fun g=>match rowOf rs g with
  |some ⟨_,s,u,xs,us⟩=>match pV u (elt (dflt u) xs k) o with
   |some ⟨.sl e,ys⟩=>bif Nat.beq s2 e.size then(match lk ti t with
    |some (.st _ q _ _)=>match takeN q (dG j (aW e (elt (dflt e) ys i)))with|some l=>bif dw l then .vc (sG xs us k s o hdr/\0<=i/\i<(n:Nat)) (.agg l)else .no|none=>.no
    |some _=>match nth (aW e (elt (dflt e) ys i)) j with|some v=>bif dw [v]then .vc (sG xs us k s o hdr/\0<=i/\i<(n:Nat)) v else .no|none=>.no
    |none=>.no)else .no
   |_=>.no
  |none=>.no
 |_=>.no
def coe{u v:U}(h:u=v)(xs:List (El u)):List (El v):=h▸xs
def aG(s:ByteArray)(i:Int):Int:=match s[i.toNat]? with
 |some b=>(b.toNat:Nat)
 |none=>0
def uJ(c:Bool):SV->SV->Option SV
 | .bool a,.bool b=>some (.bool (bif c then a else b))
 | .int .i64 i,.int .i64 j=>some (.int .i64 (bif c then i else j))
 |_,_=>none
def cellsOf:SV->List SV
 | .agg l=>l
 |v=>[v]
def mV:Nat->List SV->List SV->Option (List SV)
 |0,[],cs=>some cs
 |0,v::l,_::cs=>match mV 0 l cs with|some r=>some (v::r)|none=>none
 |o+1,l,c::cs=>match mV o l cs with|some r=>some (c::r)|none=>none
 |_,_,[]=>none
def xS(env:Ev)(g:Option (Nat×Bool))(m:Nat)(u:U):List (Nat×Operand)->List SV->Option (List SV)
 |[],cs=>some cs
 |(i,x)::l,cs=>match evs env g x with
  |some v=>bif Nat.blt i m&&Nat.beq (cellsOf v).length (uh i m u)then(match mV (dJ i m u) (cellsOf v) cs with|some cs'=>xS env g m u l cs'|none=>none)else none
  |none=>none
def jc(ti:TI)(env:Ev)(rs:List Tok)(g:Option (Nat×Bool)):Op->R
 | .move x=>match evs env g x with|some v=>.ok v|none=>.no
 | .assign x=>match evs env g x with|some v=>.ok v|none=>.no
 | .nilCheck x=>match evs env g x with
  |some (.rp u x)=>.ok (.rp u x)|some (.ptr h o)=>.ok (.ptr h o)|some (.ep h s i o)=>.ok (.ep h s i o)|some (.np k o n hdr s i j)=>.ok (.np k o n hdr s i j)|_=>.no
 | .fieldAddr s x i=>match lk ti s,evs env g x with
  |some (.st m _ u' _),some (.rp u x)=>bif Nat.beq (dJ i m u) (dJ i m u')then(match jo i m u x with|some ⟨u2,x2⟩=>.ok (.rp u2 x2)|none=>.no)else .no
  |some (.st m _ u _),some (.ptr h o)=>bif Nat.blt i m then .ok (.ptr h (o+dJ i m u))else .no
  |some (.st m _ u _),some (.ep h s j o)=>bif Nat.blt i m then .ok (.ep h s j (o+dJ i m u))else .no
  |some (.st m _ u _),some (.np k o n hdr s q j)=>bif Nat.blt i m then .ok (.np k o n hdr s q (j+dJ i m u))else .no
  |_,_=>.no
 | .load t x=>match evs env g x with|some v=>yQ ti rs t v|none=>.no
 | .binOp o t x y _=>match evs env g x,evs env g y with
  |some (.bool a),some (.bool b)=>match lk ti t,o with
   |some .bool,.eql=>.ok (.bool (a==b))
   |some .bool,.neq=>.ok (.bool (a !=b))
   |_,_=>.no
  |some (.raw (.slice none _ _)),some (.raw (.slice none 0 0))=>match lk ti t,o with
   |some (.sl _ _ _),.eql=>.ok (.bool true)
   |_,_=>.no
  |some (.nn _ _),some (.raw (.slice none 0 0))=>match lk ti t,o with
   |some (.sl _ _ _),.eql=>.ok (.bool false)
   |_,_=>.no
  |some v,some u=>BO o v u
  |_,_=>.no
 | .unOp .not _ x=>match evs env g x with|some (.bool b)=>.ok (.bool (!b))|_=>.no
 | .unOp .xor _ x=>match evs env g x with|some (.int k i)=>.ok (.int k (bits .xor k (if k.signed then -1 else k.max) i))|_=>.no
 | .unOp .neg _ x=>match evs env g x with|some (.int .i64 i)=>.ok (.int .i64 (IntKind.i64.wrap (0-i)))|_=>.no
 | .indexAddr t x y=>match lk ti t,evs env g x,evs env g y with
  |some (.sl _ _ u),some (.rsl e xs),some (.int .i64 i)=>bif Nat.beq u.size e.size then .vc (0<=i/\i<(List.length (α:=El e) xs:Nat)) (.rp e (elt (dflt e) xs i))else .no
  |some (.sl _ s _),some (.nh k o n hdr),some (.int .i64 i)=>.vc (0<=i/\i<(n:Nat)) (.np k o n hdr s i 0)
  |some (.sl _ s _),some (.sl h),some (.int .i64 i)=>match rowOf rs h with
   |some ⟨_,s',u,xs,_⟩=>bif Nat.beq s s' then .vc (0<=i/\i<(List.length (α:=El u) xs:Nat)) (.ep h s i 0)else .no
   |none=>match bP rs h with
    |some ⟨_,s',u,xs⟩=>bif Nat.beq s s' then .vc (0<=i/\i<(List.length (α:=El u) xs:Nat)) (.ep h s i 0)else .no
    |none=>.no
  |some (.sl _ s _),some (.sx h s' lo n),some (.int .i64 i)=>bif Nat.beq s s' then .vc (0<=i/\i<(n:Nat)) (.ep h s ((lo:Nat)+i) 0)else .no
  |_,_,_=>.no
 | .slice t x (some y) none none=>match lk ti t,evs env g x,evs env g y with
  |some (.sl _ s _),some (.sl h),some (.int .i64 i)=>match rowOf rs h with
   |some ⟨_,s',u,xs,_⟩=>bif Nat.beq s s' then .vc (0<=i/\i<=(List.length (α:=El u) xs:Nat)/\0<List.length (α:=El u) xs) (.sx h s i.toNat (List.length (α:=El u) xs-i.toNat))else .no
   |none=>.no
  |some (.sl _ s _),some (.sx h s1 lo n),some (.int .i64 i)=>bif Nat.beq s s1 then .vc (0<=i/\i<=(n:Nat)) (.sx h s (lo+i.toNat) (n-i.toNat))else .no
  |some (.sl _ s _),some (.rsl e xs),some (.int .i64 i)=>bif Nat.beq s e.size then .vc (0<=i/\i<=(List.length (α:=El e) xs:Nat)) (.rsl e (List.drop (α:=El e) i.toNat xs))else .no
  |_,_,_=>.no
 | .slice t x (some y) (some z) none=>match lk ti t,evs env g x,evs env g y,evs env g z with
  |some (.sl _ s _),some (.rsl e xs),some (.int .i64 i),some (.int .i64 j)=>bif Nat.beq s e.size then .vc (0<=i/\i<=j/\j<=(List.length (α:=El e) xs:Nat)) (.rsl e (List.take (α:=El e) (j.toNat-i.toNat) (List.drop (α:=El e) i.toNat xs)))else .no
  |_,_,_,_=>.no
 | .build t ps=>match lk ti t with
  |some (.st m _ u zs)=>match xS env g m u ps.toList zs with|some l=>.ok (.agg l)|none=>.no
  |_=>.no
 | .makeFunc (.func f) ts xs=>match ts.toList,oU env g xs.toList with
  |[],some l=>.ok (.fn f l)
  |_,_=>.no
 | .lookup t x y false=>match lk ti t,evs env g x,evs env g y with
  |some (.mp u),some (.mp h),some (.int .i64 i)=>match mapOf rs h with
   |some ⟨u',kv⟩=>bif gH u u' then(match aW u' (iJ (dflt u') kv i)with|[v]=>.ok v|[v,v2]=>.ok (.agg [v,v2])|_=>.no)else .no
   |none=>.no
  |some .mp2,some (.mp h),some (.agg [.int .i64 i,.int .i64 j])=>match bR rs h with
   |some kv=>.ok (.bool (sJ kv (i,j)))
   |none=>.no
  |_,_,_=>.no
 | .lookup t x y true=>match lk ti t,evs env g x,evs env g y with
  |some (.mp u),some (.mp h),some (.int .i64 i)=>match mapOf rs h with
   |some ⟨u',kv⟩=>bif gH u u' then(match aW u' (iJ (dflt u') kv i)with|[v]=>.ok (.tup [v,.bool (l6 kv i)])|[v,v2]=>.ok (.tup [.agg [v,v2],.bool (l6 kv i)])|_=>.no)else .no
   |none=>.no
  |_,_,_=>.no
 | .convert s d x=>match lk ti s,lk ti d,evs env g x with
  |some (.sc _),some (.sc (.int k _)),some (.int _ i)=>.ok (.int k (k.wrap i))
  |some (.sl e _ _),some (.sc (.raw (.string _))),some (.sl h)=>match rowOf rs h,lk ti e with
   |some ⟨_,_,u,xs,_⟩,some (.sc (.int .u8 _))=>if hu:gH u (.int .u8)=true then .ok (.raw (.string (strOfNums (coe (aB hu) xs))))else .no
   |_,_=>.no
  |_,_,_=>.no
 | .index t x y=>match lk ti t,evs env g x,evs env g y with
  |some (.sc (.raw (.string _))),some (.raw (.string s)),some (.int .i64 i)=>.vc (0<=i/\i<(s.size:Nat)) (.int .u8 (aG s i))
  |_,_,_=>.no
 | .extract x i=>match evs env g x with
  |some (.tup l)=>match nth l i with|some v=>.ok v|none=>.no
  |_=>.no
 | .pick (.tmp c) x y=>match evs env g (.tmp c)with
  |some (.bool b)=>match Aq env g (some (c,true)) x,Aq env g (some (c,false)) y with
   |some v,some u=>match uJ b v u with|some r=>.ok r|none=>.no
   |_,_=>.no
  |_=>.no
 | .call c=>match c.callee,c.args.toList,c.argTypes.toList with
  | .builtin .len,[x],[t]=>match lk ti t,evs env g x with
   |some (.sl _ _ _),some (.rsl e xs)=>.ok (.int .i64 (List.length (α:=El e) xs:Nat))
   |some (.sl _ _ _),some (.sl h)=>match rowOf rs h with
    |some ⟨_,_,u,xs,_⟩=>.ok (.int .i64 (List.length (α:=El u) xs:Nat))
    |none=>match bP rs h with
     |some ⟨_,_,u,xs⟩=>.ok (.int .i64 (List.length (α:=El u) xs:Nat))
     |none=>.no
   |some (.sl _ _ _),some (.raw (.slice none 0 0))=>.ok (.int .i64 0)
   |some (.sl _ _ _),some (.nh _ _ n _)=>.ok (.int .i64 (n:Nat))
   |some (.sl _ _ _),some (.sx _ _ _ n)=>.ok (.int .i64 (n:Nat))
   |some (.mp _),some (.mp h)=>match mapOf rs h with
    |some ⟨_,kv⟩=>.ok (.int .i64 (kv.length:Nat))
    |none=>.no
   |some .mp2,some (.mp h)=>match bR rs h with
    |some kv=>.ok (.int .i64 (kv.length:Nat))
    |none=>.no
   |some (.sc (.raw (.string _))),some (.raw (.string x))=>.ok (.int .i64 (x.size:Nat))
   |_,_=>.no
  | .builtin .max,[x,y],_=>match evs env g x,evs env g y with
   |some (.int k i),some (.int _ j)=>.ok (.int k (max i j))
   |_,_=>.no
  | .builtin .min,[x,y],_=>match evs env g x,evs env g y with
   |some (.int k i),some (.int _ j)=>.ok (.int k (min i j))
   |_,_=>.no
  |_,_,_=>.no
 |_=>.no
def Dp{u v:U}(h:u=v)(kv:List (Int×El u)):List (Int×El v):=h▸kv
@[simp] theorem xV {u : U} (h : u = u) (kv : List (Int × El u)) : Dp h kv = kv := rfl
@[simp] theorem lq {u : U} (h : u = u) (xs : List (El u)) : coe h xs = xs := rfl
def Tok.name:Tok->Nat
 | .dn g _ _=>g
 | .row g _ _ _ _ _=>g
 | .map g _ _=>g
 | .nest g _ _ _=>g
 | .dat g _ _ _ _=>g
 | .pmap g _=>g
 | .suf g _ _ _ _=>g
def aU:List Tok->Nat->(Tok->List Tok->Prop)->Prop->Prop
 |[],_,_,N=>N
 | .dn g t cs::l,k,K,N=>bif Nat.beq g k then K (.dn g t cs) l else aU l k (fun x l'=>K x (.dn g t cs::l')) N
 | .row g t s u xs us::l,k,K,N=>bif Nat.beq g k then K (.row g t s u xs us) l else aU l k (fun x l'=>K x (.row g t s u xs us::l')) N
 | .map g u kv::l,k,K,N=>bif Nat.beq g k then K (.map g u kv) l else aU l k (fun x l'=>K x (.map g u kv::l')) N
 | .nest g u xs us::l,k,K,N=>bif Nat.beq g k then K (.nest g u xs us) l else aU l k (fun x l'=>K x (.nest g u xs us::l')) N
 | .dat g t s u xs::l,k,K,N=>bif Nat.beq g k then K (.dat g t s u xs) l else aU l k (fun x l'=>K x (.dat g t s u xs::l')) N
 | .pmap g kv::l,k,K,N=>bif Nat.beq g k then K (.pmap g kv) l else aU l k (fun x l'=>K x (.pmap g kv::l')) N
 | .suf g t s u xs::l,k,K,N=>bif Nat.beq g k then K (.suf g t s u xs) l else aU l k (fun x l'=>K x (.suf g t s u xs::l')) N
def ni(rs:List Tok)(k:Nat)(K:List ((Int×Int)×Bool)->List Tok->Prop):Prop:=aU rs k (fun x l=>match x with| .pmap _ kv=>K kv l|_=>False) False
def iF(rs:List Tok)(k:Nat)(K:TypeId->List SV->List Tok->Prop):Prop:=aU rs k (fun x l=>match x with| .dn _ t cs=>K t cs l|_=>False) False
def bC(rs:List Tok)(k:Nat)(K:TypeId->Nat->(u:U)->List (El u)->List Value->List Tok->Prop):Prop:=aU rs k (fun x l=>match x with| .row _ t s u xs us=>K t s u xs us l|_=>False) False
def qp(rs:List Tok)(k:Nat)(K:(u:U)->List (Int×El u)->List Tok->Prop):Prop:=aU rs k (fun x l=>match x with| .map _ u kv=>K u kv l|_=>False) False
def tH(rs:List Tok)(k:Nat)(K:(u:U)->List (El u)->List Value->List Tok->Prop):Prop:=aU rs k (fun x l=>match x with| .nest _ u xs us=>K u xs us l|_=>False) False
def lM(rs:List Tok)(k:Nat)(K:TypeId->Nat->(u:U)->List (El u)->List Tok->Prop):Prop:=aU rs k (fun x l=>match x with| .dat _ t s u xs=>K t s u xs l|_=>False) False
def qw(rs:List Tok)(k:Nat)(K:TypeId->Nat->(u:U)->List (El u)->List Tok->Prop):Prop:=aU rs k (fun x l=>match x with
 | .suf _ t s u xs=>K t s u xs l
 | .row _ t s u xs _=>bif bf u then K t s u xs l else False
 |_=>False) False
def mkK:(u:U)->List SV->List Tok->(El u->List SV->List Tok->Prop)->Prop
 | .int k,c::l,rs,K=>match c with| .int k' i=>bif k'==k then K i l rs else False|_=>False
 | .bool,c::l,rs,K=>match c with| .bool b=>K b l rs|_=>False
 | .str,c::l,rs,K=>match c with| .raw (.string x)=>K x l rs|_=>False
 | .any,c::l,rs,K=>match c with| .raw x=>K x l rs| .int k i=>K (.int k i) l rs| .nh _ _ _ hdr=>K hdr l rs|_=>False
 | .pair a b,l,rs,K=>mkK a l rs fun x l' rs'=>mkK b l' rs' fun y l'' rs''=>K (x,y) l'' rs''
 | .sl e,c::l,rs,K=>match c with
  | .sl h=>bC rs h fun _ s u xs _ rs'=>if hu:gH u e=true then(bif Nat.beq s e.size then K (coe (aB hu) xs) l rs' else False)else False
  | .raw (.slice none 0 0)=>K [] l rs
  |_=>False
 | .tree e,l,rs,K=>mkK e l rs fun x l' rs'=>match l' with
  |c::l''=>(match c with
   | .sl h=>bC rs' h fun _ s u xs _ rs''=>if hu:gH u (.tree e)=true then(bif Nat.beq s (e.size+1)then K (.node x (coe (aB hu) xs)) l'' rs'' else False)else False
   | .raw (.slice none 0 0)=>K (.node x []) l'' rs'
   |_=>False)
  |[]=>False
 |_,[],_,_=>False
def wP(u:U):List (List SV)->List Tok->(List (El u)->List Tok->Prop)->Prop
 |[],rs,K=>K [] rs
 |c::cs,rs,K=>mkK u c rs fun x l rs'=>match l with|[]=>wP u cs rs' fun xs rs''=>K (x::xs) rs''|_=>False
def hol:Nat->U
 |0=>.any
 |1=>.any
 |n+2=>.pair .any (hol (n+1))
def yJ:List SV->Bool
 |[]=>false
 |v::l=>match v with
  | .nh _ _ _ _=>true
  |_=>yJ l
def yI:List (List SV)->Bool
 |[]=>false
 |c::l=>yJ c||yI l
def iU(env:Ev)(g:Option (Nat×Bool)):List (Nat×Operand)->Nat->Option (List (List SV))
 |[],_=>some []
 |(i,x)::l,k=>bif Nat.beq i k then(match evs env g x,iU env g l (k+1)with|some v,some r=>some (cellsOf v::r)|_,_=>none)else none
def rH:SV->Bool
 | .int _ _=>true
 | .bool _=>true
 | .raw _=>true
 | .rsl _ _=>true
 | .rp _ _=>true
 | .ptr _ _=>true
 | .sl _=>true
 | .ep _ _ _ _=>true
 | .nh _ _ _ _=>true
 | .np _ _ _ _ _ _ _=>true
 | .mp _=>true
 | .nn _ _=>true
 | .fn _ _=>true
 |_=>false
def oM:List SV->Bool
 |[]=>true
 |v::l=>rH v&&oM l
def setAt:Nat->List SV->List SV->(List SV->Prop)->Prop
 |0,[],cs,K=>K cs
 |0,v::l,_::cs,K=>setAt 0 l cs fun r=>K (v::r)
 |o+1,l,c::cs,K=>setAt o l cs fun r=>K (c::r)
 |_,_,[],_=>False
def lJ(st:Bool)(σ:List (Nat×Nat))(g:Nat)(K:Nat->Prop):Prop:=match lk σ g with
 |some h=>K h
 |none=>match st with|true=>False|false=>K g
def BF(st:Bool)(σ:List (Nat×Nat))(v:SV):(SV->Prop)->Prop:=
 SV.rec (motive_1:=fun _=>(SV->Prop)->Prop) (motive_2:=fun _=>(List SV->Prop)->Prop) (fun k i K=>K (.int k i)) (fun b K=>K (.bool b)) (fun v K=>K (.raw v)) (fun e xs K=>K (.rsl e xs)) (fun u x K=>K (.rp u x)) (fun g o K=>lJ st σ g fun h=>K (.ptr h o)) (fun g K=>lJ st σ g fun h=>K (.sl h)) (fun g s i o K=>lJ st σ g fun h=>K (.ep h s i o)) (fun _ ih K=>ih fun l'=>K (.agg l')) (fun _ ih K=>ih fun l'=>K (.tup l')) (fun f _ ih K=>ih fun l'=>K (.fn f l')) (fun K=>K .un) (fun _ _ _ _ _=>False) (fun k o n hdr K=>K (.nh k o n hdr)) (fun k o n hdr s i j K=>K (.np k o n hdr s i j)) (fun g K=>lJ st σ g fun h=>K (.mp h)) (fun e xs K=>K (.nn e xs)) (fun g s lo n K=>lJ st σ g fun h=>K (.sx h s lo n)) (fun K=>K []) (fun _ _ ih1 ih2 K=>ih1 fun v'=>ih2 fun l'=>K (v'::l')) v
def uO(st:Bool)(σ:List (Nat×Nat))(l:List SV):(List SV->Prop)->Prop:=
 SV.rec_1 (motive_1:=fun _=>(SV->Prop)->Prop) (motive_2:=fun _=>(List SV->Prop)->Prop) (fun k i K=>K (.int k i)) (fun b K=>K (.bool b)) (fun v K=>K (.raw v)) (fun e xs K=>K (.rsl e xs)) (fun u x K=>K (.rp u x)) (fun g o K=>lJ st σ g fun h=>K (.ptr h o)) (fun g K=>lJ st σ g fun h=>K (.sl h)) (fun g s i o K=>lJ st σ g fun h=>K (.ep h s i o)) (fun _ ih K=>ih fun l'=>K (.agg l')) (fun _ ih K=>ih fun l'=>K (.tup l')) (fun f _ ih K=>ih fun l'=>K (.fn f l')) (fun K=>K .un) (fun _ _ _ _ _=>False) (fun k o n hdr K=>K (.nh k o n hdr)) (fun k o n hdr s i j K=>K (.np k o n hdr s i j)) (fun g K=>lJ st σ g fun h=>K (.mp h)) (fun e xs K=>K (.nn e xs)) (fun g s lo n K=>lJ st σ g fun h=>K (.sx h s lo n)) (fun K=>K []) (fun _ _ ih1 ih2 K=>ih1 fun v'=>ih2 fun l'=>K (v'::l')) l
def qj(st:Bool)(σ:List (Nat×Nat)):Tok->(Tok->Prop)->Prop
 | .dn g t cs,K=>lJ st σ g fun h=>uO st σ cs fun cs'=>K (.dn h t cs')
 | .row g t s u xs us,K=>lJ st σ g fun h=>K (.row h t s u xs us)
 | .map g u kv,K=>lJ st σ g fun h=>K (.map h u kv)
 | .nest g u xs us,K=>lJ st σ g fun h=>K (.nest h u xs us)
 | .dat g t s u xs,K=>lJ st σ g fun h=>K (.dat h t s u xs)
 | .pmap g kv,K=>lJ st σ g fun h=>K (.pmap h kv)
 | .suf g t s u xs,K=>lJ st σ g fun h=>K (.suf h t s u xs)
def gu(st:Bool)(σ:List (Nat×Nat)):List Tok->(List Tok->Prop)->Prop
 |[],K=>K []
 |v::l,K=>qj st σ v fun v'=>gu st σ l fun l'=>K (v'::l')
def w9(st:Bool)(σ:List (Nat×Nat)):Ev->(Ev->Prop)->Prop
 |[],K=>K []
 |(t,v)::l,K=>BF st σ v fun v'=>w9 st σ l fun l'=>K ((t,v')::l')
mutual
def SV.names:SV->List Nat->List Nat
 | .ptr g _,r=>g::r
 | .sl g,r=>g::r
 | .ep g _ _ _,r=>g::r
 | .sx g _ _ _,r=>g::r
 | .mp g,r=>g::r
 | .agg l,r=>bH l r
 | .tup l,r=>bH l r
 | .fn _ l,r=>bH l r
 | .gd _ _ v,r=>v.names r
 |_,r=>r
def bH:List SV->List Nat->List Nat
 |[],r=>r
 |v::l,r=>v.names (bH l r)
end
def Tok.names:Tok->List Nat->List Nat
 | .dn g _ cs,r=>g::bH cs r
 | .row g _ _ _ _ _,r=>g::r
 | .map g _ _,r=>g::r
 | .nest g _ _ _,r=>g::r
 | .dat g _ _ _ _,r=>g::r
 | .pmap g _,r=>g::r
 | .suf g _ _ _ _,r=>g::r
def eu:Ev->List Nat->List Nat
 |[],r=>r
 |(_,v)::l,r=>v.names (eu l r)
def aF:List Tok->List Nat->List Nat
 |[],r=>r
 |t::l,r=>t.names (aF l r)
def pW(d:Nat):List Nat->Bool
 |[]=>true
 |g::l=>bif Nat.beq (g % 1000000) d then false else pW d l
def au(d:Nat)(env:Ev)(rs:List Tok):Bool:=pW d (eu env (aF rs []))
def CK:Nat->List Nat->List Tok->Nat->(List Tok->List (Nat×Nat)->List Tok->Prop)->Prop
 |0,_,_,_,_=>False
 |_+1,[],rs,_,K=>K [] [] rs
 |n+1,g::todo,rs,i,K=>aU rs g (fun x rs'=>CK n (x.names todo) rs' (i+1) fun tk σ rest=>K (x::tk) ((g,i)::σ) rest) (CK n todo rs i K)
def uU:SV->SV->Prop
 | .int k i,.int k' j=>i=j/\k=k'
 | .bool a,.bool b=>a=b
 |x,y=>x=y
def mZ:List SV->List SV->Prop
 |[],[]=>True
 |a::l,b::m=>uU a b/\mZ l m
 |_,_=>False
def bI(rs:List Tok):List Tok->Prop
 |[]=>True
 | .dn g t cs::ts=>iF rs g fun t' cs' rest=>(bif Nat.beq t' t then True else False)/\mZ cs' cs/\bI rest ts
 | .row g t s u xs us::ts=>bC rs g fun t' s' u' xs' us' rest=>match Nat.beq t' t&&Nat.beq s' s with
  |true=>if hu:gH u' u=true then(coe (aB hu) xs'=xs/\us<+:us')/\bI rest ts else False
  |false=>False
 | .map g u kv::ts=>qp rs g fun u' kv' rest=>if hu:gH u' u=true then Dp (aB hu) kv'=kv/\bI rest ts else False
 | .nest g u xs us::ts=>tH rs g fun u' xs' us' rest=>if hu:gH u' u=true then(coe (aB hu) xs'=xs/\us'=us)/\bI rest ts else False
 | .dat g t s u xs::ts=>lM rs g fun t' s' u' xs' rest=>match Nat.beq t' t&&Nat.beq s' s with
  |true=>if hu:gH u' u=true then coe (aB hu) xs'=xs/\bI rest ts else False
  |false=>False
 | .pmap g kv::ts=>ni rs g fun kv' rest=>kv'=kv/\bI rest ts
 | .suf g t s u xs::ts=>qw rs g fun t' s' u' xs' rest=>match Nat.beq t' t&&Nat.beq s' s with
  |true=>if hu:gH u' u=true then coe (aB hu) xs'=xs/\bI rest ts else False
  |false=>False
def bT(ops:List Oper)(j:Nat):Option Nat:=match nth ops j with|some o=>o.dst|none=>none
def dQ(env:Ev):Nat->Nat->Bool->Option Bool
 |0,_,_=>none
 |k+1,d,b=>match lk env d with
  |some (.bool c)=>match b with|true=>some c|false=>some (!c)
  |some (.gd d' b' (.bool c))=>match dQ env k d' b' with
   |some e=>match b with|true=>some (e&&c)|false=>some (e&& !c)
   |none=>none
  |_=>none
inductive G where
 |no
 |free
 |at(d:Nat) (b:Bool) (c:Bool)
def eB(ops:List Oper)(env:Ev):Option (Nat×Bool)->G
 |none=>.free
 |some (j,b)=>match bT ops j with
  |some d=>match dQ env 8 d b with|some c=>.at d b c|none=>.no
  |none=>.no
inductive X where
 |n|r|x (id:Nat)
def kD(v:Value)(t:TypeId)(s n:Nat)(ds:List D)(pre:List Value):aM where
 p w F:=∃bs us,F=jD v++bs/\GR 0 w t s v n ds bs us/\pre<+:us
 keep:=fun⟨bs,us,e,h,hp⟩ k=>⟨bs,us,e,by
  subst e;have kb:Keeps _ _ bs:=k.sub fun b hb=>by simp[hb]
  exact⟨fM h.row fun g hg=>k.2 g (by simp[dD,hg]),h.tn.keep kb,⟨h.own.1,fun b hb=>by obtain⟨h0,cur,t,h1⟩:=h.own.2 b hb;exact⟨h0,cur,t,(kb.2 b hb).trans h1⟩⟩,h.out⟩,hp⟩
 lt:=fun⟨bs,us,e,h,_⟩ b hb=>by
  subst e;rcases qT.1 hb with hb|hb
  .exact(h.lt b (dD.1 hb)).2
  .exact h.tn.lt b hb
def xH(v:Value)(t:TypeId)(s n:Nat)(ds:List D):aM where
 p w F:=(v=.slice none 0 0/\n=0/\ds=[]/\F=[])\/∃g off c cur us,v=.slice (some ⟨g,off,none⟩) n c/\F=[g]/\w.heap[g]? =some (.cells cur t (0,0))/\n<=c/\c<=maxLen/\off+c*s<=cur.size/\us=(cur.toList.drop off).take (n*s)/\us.length=n*s/\TN w ds [] us
 keep:=fun h k=>by
  rcases h with h|⟨g,off,c,cur,us,h1,rfl,h3,h4,h5,h6,h7,h8,h9⟩
  .exact .inl h
  .exact .inr ⟨g,off,c,cur,us,h1,rfl,(k.2 g (by simp)).trans h3,h4,h5,h6,h7,h8,h9.keep ⟨k.1,by simp⟩⟩
 lt:=fun h b hb=>by
  rcases h with⟨_,_,_,rfl⟩|⟨g,off,c,cur,us,h1,rfl,h3,_⟩
  .simp at hb
  .simp at hb;subst hb;exact(Array.getElem?_eq_some_iff.1 h3).1
structure Cx where
 w0:World
 F0:List Nat
 [gt:GT w0 F0]
theorem Cx.Eh(cx:Cx){w:World}{rs:List aM}(h:Inv cx.w0 cx.F0 w rs):GT w []:=cx.gt.at_ h.gM (by simp)
mutual
def Den(cx:Cx)(β:Nat->Value):SV->Value->Prop
 | .int k i,v=>v=.int k i
 | .bool b,v=>v=.bool b
 | .raw x,v=>v=x/\x.oneCell'=true
 | .rsl e xs,v=>dB cx.w0 cx.F0 (.sl (List.length (α:=El e) xs) (List.flatMap (enc e) xs)) v
 | .rp u x,v=>∃b o,v=.pointer (some ⟨b,o,none⟩)/\kR cx.w0 cx.F0 b o (enc u x)
 | .ptr g o,v=>∃b,β g=.pointer (some ⟨b,0,none⟩)/\v=.pointer (some ⟨b,o,none⟩)
 | .sl g,v=>v=β g/\∃A n c,v=.slice A n c
 | .ep g s i o,v=>∃b z m c,β g=.slice (some ⟨b,z,none⟩) m c/\i.toNat<m/\v=.pointer (some ⟨b,z+(i.toNat*s+o),none⟩)
 | .agg l,v=>∃vs:List Value,v=.agg vs.toArray/\ah cx β l vs
 | .tup l,v=>∃vs:List Value,v=.tuple vs.toArray/\ah cx β l vs
 | .fn f l,v=>∃vs:List Value,v=.func (.func f) #[] vs.toArray/\ah cx β l vs
 | .un,v=>v=undef
 | .gd _ _ _,_=>False
 | .nh _ _ n hdr,v=>v=hdr/\∃A c,hdr=.slice A n c/\(0<n->∃b o,A=some ⟨b,o,none⟩)
 | .np _ _ n hdr s i j,v=>∃b o c,hdr=.slice (some ⟨b,o,none⟩) n c/\v=.pointer (some ⟨b,o+i.toNat*s+j,none⟩)
 | .mp g,v=>v=β g/\∃r,v=.map (some r)
 | .nn e xs,v=>dB cx.w0 cx.F0 (.sl (List.length (α:=El e) xs) (List.flatMap (enc e) xs)) v/\∃a n c,v=.slice (some a) n c
 | .sx g s lo n,v=>∃b z m c o c',β g=.slice (some ⟨b,z,none⟩) m c/\lo+n<=m/\v=.slice (some ⟨b,o,none⟩) n c'/\(0<n->o=z+lo*s)/\n<=c'
def ah(cx:Cx)(β:Nat->Value):List SV->List Value->Prop
 |[],vs=>vs=[]
 |s::l,vs=>∃v vs',vs=v::vs'/\Den cx β s v/\ah cx β l vs'
end
def aD(P:Program)(f:FuncId)(args:List SV)(r:SV):Prop:=dI P f=true/\∀(cx:Cx) (β:Nat->Value) (w:World) (fr:List aM) (vs:List Value),Inv cx.w0 cx.F0 w fr->ah cx β args vs->
 Calls P f vs.toArray w fun e w'=>∃v,e=.returned v/\Den cx β r v/\Inv cx.w0 cx.F0 w' fr
def bN(p:Int×Int):Value:=.agg ([p.1,p.2].map (Value.int .i64)).toArray
def Tok.res(cx:Cx)(β:Nat->Value):Tok->aM
 | .dn g t cs=>{
  p:=fun w F=>∃b us,β g=.pointer (some ⟨b,0,none⟩)/\ah cx β cs us/\us.all (·.oneCell')=true/\(u7 b us t).p w F
  keep:=fun⟨b,us,h1,h2,h3,h4⟩ k=>⟨b,us,h1,h2,h3,(u7 b us t).keep h4 k⟩
  lt:=fun⟨b,us,h1,h2,h3,h4⟩=>(u7 b us t).lt h4}
 | .row g t s u xs us=>{
  p:=fun w F=>u.size=s/\(kD (β g) t s (List.length (α:=El u) xs) (List.flatMap (enc u) xs) us).p w F
  keep:=fun⟨h1,h2⟩ k=>⟨h1,(kD (β g) t s _ _ us).keep h2 k⟩
  lt:=fun⟨h1,h2⟩=>(kD (β g) t s _ _ us).lt h2}
 | .map g u kv=>{
  p:=fun w F=>u1 u=true/\∃(r:Nat) (es:List MapEntry) (cl:Nat),β g=.map (some r)/\F=[r]/\w.heap[r]? =some (.map es.toArray cl)/\es.map (fun e=>(e.key,e.val))=kv.map (fun x=>(Value.int .i64 x.1,jI u x.2))
  keep:=fun⟨h1,r,es,cl,h2,h3,h4,h5⟩ k=>⟨h1,r,es,cl,h2,h3,(k.2 r (by rw[h3];simp)).trans h4,h5⟩
  lt:=fun⟨h1,r,es,cl,h2,h3,h4,h5⟩ b hb=>by rw[h3]at hb;simp at hb;subst hb;exact(Array.getElem?_eq_some_iff.1 h4).1}
 | .nest _ u xs us=>aL us (List.flatMap (enc u) xs)
 | .dat g t s u xs=>{
  p:=fun w F=>u.size=s/\∃us:List Value,ah cx β (List.flatMap (aW u) xs) us/\us.all (·.oneCell')=true/\(kD (β g) t s (List.length (α:=El u) xs) (us.map D.v) []).p w F
  keep:=fun⟨h1,us,h2,h3,h4⟩ k=>⟨h1,us,h2,h3,(kD (β g) t s _ _ []).keep h4 k⟩
  lt:=fun⟨h1,us,h2,h3,h4⟩=>(kD (β g) t s _ _ []).lt h4}
 | .pmap g kv=>{
  p:=fun w F=>∃(r:Nat) (es:List MapEntry) (cl:Nat),β g=.map (some r)/\F=[r]/\w.heap[r]? =some (.map es.toArray cl)/\es.map (fun e=>(e.key,e.val))=kv.map (fun x=>(bN x.1,Value.bool x.2))
  keep:=fun⟨r,es,cl,h2,h3,h4,h5⟩ k=>⟨r,es,cl,h2,h3,(k.2 r (by rw[h3];simp)).trans h4,h5⟩
  lt:=fun⟨r,es,cl,h2,h3,h4,h5⟩ b hb=>by rw[h3]at hb;simp at hb;subst hb;exact(Array.getElem?_eq_some_iff.1 h4).1}
 | .suf g t s u xs=>{
  p:=fun w F=>u.size=s/\bf u=true/\(xH (β g) t s (List.length (α:=El u) xs) (List.flatMap (enc u) xs)).p w F
  keep:=fun⟨h1,h2,h3⟩ k=>⟨h1,h2,(xH (β g) t s _ _).keep h3 k⟩
  lt:=fun⟨h1,h2,h3⟩=>(xH (β g) t s _ _).lt h3}
def bD(P:Program)(f:FuncId)(args:List SV)(ts:List Tok)(r:SV)(ts':List Tok):Prop:=dI P f=true/\∀(cx:Cx) (β:Nat->Value) (w:World) (fr:List aM) (vs:List Value),Inv cx.w0 cx.F0 w (ts.map (Tok.res cx β)++fr)->ah cx β args vs->
 Calls P f vs.toArray w fun e w'=>∃v β',e=.returned v/\(∀g,10000<=g->g<10000+ts.length->β' g=β g)/\Den cx β' r v/\Inv cx.w0 cx.F0 w' (ts'.map (Tok.res cx β')++fr)
def pQ:Option Bool->Prop->Prop
 |none,p=>p
 |some c,p=>c=true->p
def rK(gc:Option Bool)(r:R)(K:SV->Prop):Prop:=match r with
 | .no=>False
 | .ok v=>K v
 | .vc p v=>match gc with
  |none=>p/\K v
  |some c=>(c=true->p)/\K v
 | .ex f=>∃k:Nat,rK gc (f k) K
def jR:List SV->Option (List Int)
 |[]=>some []
 | .int .i64 i::l=>match jR l with|some r=>some (i::r)|none=>none
 |_::_=>none
def Ao (P : Program) (t n : Nat) : Bool := !P.stoodInHeld t && (!P.eqGuardType P.depth t && ((match P.underlying t with | some (.struct _) => true | _ => false) && (n == 4 && (match (P.fieldsOf t).toList with | [f, g] => f.name != "_" && (g.name != "_" && (f.offset == 0 && (g.offset == 2 && (fu P f.type 2 && (fu P g.type 2 && ((match P.info? f.type with | some i => i.size == 2 | none => false) && (match P.info? g.type with | some i => i.size == 2 | none => false))))))) | _ => false))))
def rY(P:Program)(t n:Nat):Bool:=fu P t n||Ao P t n
def Ee(o:BinOp)(xs ys:List Int):Bool:=match o with| .eql=>bq xs ys|_=> !bq xs ys
def EL:SV->SV->Option (Nat×Bool)
 | .int .i64 i,.int .i64 j=>some (0,i==j)
 | .bool a,.bool b=>some (1,a==b)
 | .raw (.string a),.raw (.string b)=>some (2,decide (a=b))
 |_,_=>none
def yg:List SV->List SV->Option (List Nat×Bool)
 |[],[]=>some ([],true)
 |a::l,b::m=>match EL a b,yg l m with
  |some (k,x),some (ks,y)=>some (k::ks,x&&y)
  |_,_=>none
 |_,_=>none
def kindOk(P:Program)(t:Nat):Nat->Bool
 |0=>(match P.underlying t with|some (.int .i64)=>true|_=>false)
 |1=>(match P.underlying t with|some .bool=>true|_=>false)
 |_=>(match P.underlying t with|some .string=>true|_=>false)
def lH(P:Program):Nat->List Field->List Nat->Bool
 |_,[],[]=>true
 | i, f :: fs, k :: ks => f.name != "_" && (f.offset == i && (kindOk P f.type k && lH P (i + 1) fs ks))
 |_,_,_=>false
def tY(P:Program)(t:Nat)(ks:List Nat):Bool:= !P.stoodInHeld t&&(!P.eqGuardType P.depth t&&((match P.underlying t with|some (.struct _)=>true|_=>false)&&lH P 0 (P.fieldsOf t).toList ks))
def rZ(P:Program)(gc:Option Bool)(o:BinOp)(t:TypeId)(l m:List SV)(K:SV->Prop):Prop:=match yg l m with
 |some (ks,b)=>match o with
  | .eql=>pQ gc (tY P t ks=true)/\K (.bool b)
  | .neq=>pQ gc (tY P t ks=true)/\K (.bool (!b))
  |_=>False
 |none=>False
def vB(P:Program)(gc:Option Bool)(o:BinOp)(t:TypeId)(l m:List SV)(K:SV->Prop):Prop:=match jR l,jR m with
 |some xs,some ys=>match o with
  | .eql=>pQ gc (rY P t xs.length=true/\ys.length=xs.length)/\K (.bool (bq xs ys))
  | .neq=>pQ gc (rY P t xs.length=true/\ys.length=xs.length)/\K (.bool (!bq xs ys))
  |_=>False
 |_,_=>rZ P gc o t l m K
def Ce(P:Program)(t i o:Nat):Bool:=match P.underlying t with
 |some (.struct fs)=>(match fs[i]? with|some f=>f.offset==o&&eZ P f.type==some false|none=>false)
 |_=>false
def kV(P:Program)(ti:TI)(env:Ev)(rs:List Tok)(g:Option (Nat×Bool))(gc:Option Bool)(op:Op)(K:SV->Prop):Prop:=match op with
 | .call c=>match c.callee with
  | .value x=>match evs env g x,oU env g c.args.toList with
   |some (.fn f l),some vs=>∃r,pQ gc (aD P f (vs++l) r)/\K r
   |_,_=>False
  |_=>rK gc (jc ti env rs g (.call c)) K
 | .binOp o t x y z=>match evs env g x,evs env g y with
  |some (.agg l),some (.agg m)=>vB P gc o t l m K
  |_,_=>rK gc (jc ti env rs g (.binOp o t x y z)) K
 | .field t x i=>match evs env g x with
  |some (.agg l)=>∃o:Nat,pQ gc (Ce P t i o=true)/\∃v,nth l o=some v/\K v
  |_=>False
 |op=>rK gc (jc ti env rs g op) K
def mem(t:Nat):List Nat->Bool
 |[]=>false
 |x::l=>bif Nat.beq t x then true else mem t l
def Tok.CW:Tok->List Nat->Bool
 | .dn g _ _,ns=>mem g ns
 | .row g _ _ _ _ _,ns=>mem g ns
 | .map g _ _,ns=>mem g ns
 | .nest g _ _ _,ns=>mem g ns
 | .dat g _ _ _ _,ns=>mem g ns
 | .pmap g _,ns=>mem g ns
 | .suf g _ _ _ _,ns=>mem g ns
def lQ(d:Nat):List (Nat×Nat)->Nat->List (Nat×Nat)
 |[],i=>[(i,d),(i+1,d+1000000),(i+2,d+2000000),(i+3,d+3000000),(i+4,d+4000000),(i+5,d+5000000),(i+6,d+6000000),(i+7,d+7000000),(i+8,d+8000000),(i+9,d+9000000)]
 |(g,c)::l,i=>(c,g)::lQ d l (i+1)
def xQ:List Tok->List Tok->(List Tok->Prop)->Prop
 |[],e,K=>K e
 |x::l,e,K=>xQ l e fun l'=>K (x::l')
def mK:List Tok->List Nat
 |[]=>[]
 | .row g _ _ _ _ _::l=>g::mK l
 |_::l=>mK l
def zU:List SV->Bool
 |[]=>false
 |v::l=>match v with
  | .nh _ _ _ _=>true
  | .np _ _ _ _ _ _ _=>true
  |_=>zU l
def Es(P:Program)(rs:List Tok)(d f:Nat)(vs:List SV)(K:SV->List Tok->Prop):Prop:=
 CK 64 (bH vs (bif zU vs then mK rs else[])) rs 10000 fun tk σ rest=>uO true σ vs fun vs'=>gu true σ tk fun tk'=>
  ∃r ts',bD P f vs' tk' r ts'/\BF true (lQ d σ 10000) r fun r'=>gu true (lQ d σ 10000) ts' fun ts''=>xQ ts'' rest fun rs'=>K r' rs'
def BN(P:Program)(ti:TI)(env:Ev)(rs:List Tok)(g:Option (Nat×Bool))(d:Nat)(c:Call)(K:SV->List Tok->Prop):Prop:=
 match c.args.toList,c.argTypes.toList with
 |[x,y],[t,t']=>bif Nat.beq t t' then(match lk ti t,evs env g x,evs env g y with
  |some (.sl e s u),some (.sl h),some (.sl k)=>bC rs h fun e1 s1 u1 xs us rs1=>bC rs1 k fun e2 s2 u2 ys _ rs2=>bif Nat.beq e1 e&&Nat.beq s1 s&&Nat.beq s2 s then(if hu:gH u2 u1=true then
    xs.length+ys.length<=1073741824/\K (.sl d) (.row d e s u1 (xs++coe (aB hu) ys) us::rs2)else False)else False
  |some (.sl e s u),some (.raw (.slice none 0 0)),some (.sl k)=>bC rs k fun e2 s2 u2 ys _ rs2=>bif Nat.beq s2 s then
    ys.length<=1073741824/\K (.sl d) (.row d e s u2 ys []::rs2)else False
  |some (.sl e s u),some (.sl h),some (.rsl e2 ys)=>bif bf e2&&Nat.beq e2.size s then(bC rs h fun e1 s1 u1 xs us rs1=>bif Nat.beq e1 e&&Nat.beq s1 s then(if hu:gH e2 u1=true then
    xs.length+List.length (α:=El e2) ys<=1073741824/\K (.sl d) (.row d e s u1 (xs++coe (aB hu) ys) us::rs1)else False)else False)else(match bP rs h with
   |some _=>lM rs h fun e1 s1 u1 xs rs1=>bif Nat.beq e1 e&&Nat.beq s1 s then(if hu:gH e2 u1=true then
    List.length (α:=El u1) xs+List.length (α:=El e2) ys<=1073741824/\K (.sl d) (.dat d e s u1 (xs++coe (aB hu) ys)::rs1)else False)else False
   |none=>bC rs h fun e1 s1 _ xs _ rs1=>match xs with
    |[]=>bif (Nat.beq e1 e&&Nat.beq s1 s)&&Nat.beq e2.size s then List.length (α:=El e2) ys<=1073741824/\K (.sl d) (.dat d e s e2 ys::rs1)else False
    |_::_=>False)
  |some (.sl e s u),some (.raw (.slice none 0 0)),some (.rsl e2 ys)=>bif bf e2&&Nat.beq e2.size s then
    List.length (α:=El e2) ys<=1073741824/\K (.sl d) (.row d e s e2 ys []::rs)else(bif Nat.beq e2.size s then List.length (α:=El e2) ys<=1073741824/\K (.sl d) (.dat d e s e2 ys::rs)else False)
  |some (.sl e s u),some (.sl h),some (.nn e2 ys)=>bif bf e2&&Nat.beq e2.size s then(bC rs h fun e1 s1 u1 xs us rs1=>bif Nat.beq e1 e&&Nat.beq s1 s then(if hu:gH e2 u1=true then
    xs.length+List.length (α:=El e2) ys<=1073741824/\K (.sl d) (.row d e s u1 (xs++coe (aB hu) ys) us::rs1)else False)else False)else(bC rs h fun e1 s1 _ xs _ rs1=>match xs with
    |[]=>bif (Nat.beq e1 e&&Nat.beq s1 s)&&Nat.beq e2.size s then List.length (α:=El e2) ys<=1073741824/\K (.sl d) (.dat d e s e2 ys::rs1)else False
    |_::_=>False)
  |some (.sl e s u),some (.sl h),some (.sx k s2 lo n)=>bC rs h fun e1 s1 u1 xs us rs1=>match rowOf rs1 k with
   |some ⟨_,s3,u2,ys,_⟩=>bif (isRow rs1 k&&bf u2)&&(Nat.beq e1 e&&Nat.beq s1 s&&Nat.beq s2 s&&Nat.beq s3 s)then(if hu:gH u2 u1=true then
    (lo+n<=List.length (α:=El u2) ys/\xs.length+n<=1073741824)/\K (.sl d) (.row d e s u1 (xs++coe (aB hu) (List.take n (List.drop lo ys))) us::rs1)else False)else False
   |none=>False
  |_,_,_=>False)else False
 |_,_=>False
def nJ{α:Type}(xs:List α)(lo:Nat)(ys:List α)(k:Nat):List α:=xs.take lo++ys.take k++xs.drop (lo+k)
def BU(ti:TI)(env:Ev)(rs:List Tok)(g:Option (Nat×Bool))(c:Call)(K:SV->List Tok->Prop):Prop:=
 match c.args.toList,c.argTypes.toList with
 |[x,y],[t,t']=>bif Nat.beq t t' then(match lk ti t,evs env g x,evs env g y with
  |some (.sl e s _),some (.sl h),some (.rsl e2 ys)=>bC rs h fun e1 s1 u1 xs _ rs1=>bif bf e2&&(Nat.beq e1 e&&Nat.beq s1 s&&Nat.beq s 1)then(if hu:gH e2 u1=true then
    K (.int .i64 (Nat.min (List.length (α:=El e2) ys) xs.length:Nat)) (.row h e1 s1 u1 (nJ xs 0 (coe (aB hu) ys) (Nat.min (List.length (α:=El e2) ys) xs.length)) []::rs1)else False)else False
  |some (.sl e s _),some (.sx h s2 lo n),some (.sx k s3 lo2 n2)=>bif Nat.beq h k&&(Nat.beq s2 s&&Nat.beq s3 s)then(bC rs h fun e1 s1 u1 xs _ rs1=>bif bf u1&&(Nat.beq e1 e&&Nat.beq s1 s&&Nat.beq s 1)then
    (lo+n<=xs.length/\lo2+n2<=xs.length)/\K (.int .i64 (Nat.min n2 n:Nat)) (.row h e1 s1 u1 (nJ xs lo (List.take n2 (List.drop lo2 xs)) (Nat.min n2 n)) []::rs1)else False)else False
  |_,_,_=>False)else False
 |_,_=>False
def gG(P:Program)(ti:TI)(env:Ev)(rs:List Tok)(g:Option (Nat×Bool))(d:Nat)(op:Op)(K:SV->List Tok->Prop):Prop:=match op with
 | .alloc t=>match lk ti t with
  |some (.st _ _ _ zs)=>K (.ptr d 0) (.dn d t zs::rs)
  |some (.sc z)=>K (.ptr d 0) (.dn d t [z]::rs)
  |some .bool=>K (.ptr d 0) (.dn d t [.bool false]::rs)
  |some (.ptr _)=>K (.ptr d 0) (.dn d t [.raw (.pointer none)]::rs)
  |some (.sl _ _ _)=>K (.ptr d 0) (.dn d t [.raw (.slice none 0 0)]::rs)
  |some (.mp _)=>K (.ptr d 0) (.dn d t [.raw (.map none)]::rs)
  |some .mp2=>K (.ptr d 0) (.dn d t [.raw (.map none)]::rs)
  |none=>False
 | .box t x=>match evs env g x with
  |some v=>match v with
   | .agg l=>bif oM l then K (.ptr d 0) (.dn d t l::rs)else False
   |v=>bif rH v then K (.ptr d 0) (.dn d t [v]::rs)else False
  |none=>False
 | .buildSlice t m ps=>match lk ti t with
  |some (.sl e s u)=>match iU env g ps.toList 0 with
   |some cs=>bif Nat.beq cs.length m&&Nat.ble (m*s) 16777216 then(bif yI cs&&Nat.beq (hol s).size s then wP (hol s) cs rs fun xs rs'=>K (.sl d) (.row d e s (hol s) xs []::rs')else wP u cs rs fun xs rs'=>K (.sl d) (.row d e s u xs []::rs'))else False
   |none=>False
  |_=>False
 | .makeMap t none=>match lk ti t with
  |some (.mp u)=>K (.mp d) (.map d u []::rs)
  |some .mp2=>K (.mp d) (.pmap d []::rs)
  |_=>False
 | .makeSlice t l c=>match lk ti t,evs env g l,evs env g c with
  |some (.sl e s u),some (.int .i64 i),some (.int .i64 j)=>match lk ti e with
   |some z=>bif eG ((eH z).map iO) (aR u)&&Nat.beq (aR u).length s then(0<=i/\i<=j/\j<=2097152)/\K (.sl d) (.row d e s u (List.replicate i.toNat (dflt u)) []::rs)else False
   |none=>False
  |_,_,_=>False
 | .call c=>match c.callee with
  | .value x=>match evs env g x,oU env g c.args.toList with
   |some (.fn f l),some vs=>Es P rs d f (vs++l) K
   |_,_=>False
  | .builtin .append=>BN P ti env rs g d c K
  | .builtin .copy=>BU ti env rs g c K
  |_=>False
 | .slice t x (some y) none none=>match lk ti t,evs env g x,evs env g y with
  |some (.sl e s _),some (.sl h),some (.int .i64 i)=>qw rs h fun e1 s1 u xs rs1=>bif Nat.beq e1 e&&Nat.beq s1 s then(0<=i/\i<=(List.length (α:=El u) xs:Nat))/\K (.sl d) (.suf d e s u (List.drop (α:=El u) i.toNat xs)::rs1)else False
  |_,_,_=>False
 | .slice t x none (some y) none=>match lk ti t,evs env g x,evs env g y with
  |some (.sl e s _),some (.sl h),some (.int .i64 i)=>(bC rs h fun e1 s1 u xs _ rs1=>bif Nat.beq e1 e&&Nat.beq s1 s then(0<=i/\i<=(xs.length:Nat))/\K (.sl d) (.row d e s u (xs.take i.toNat) []::rs1)else False)\/(match rowOf rs h with
   |some ⟨_,s1,u,xs,_⟩=>bif Nat.beq s1 s then(0<=i/\i<=(List.length (α:=El u) xs:Nat)/\0<List.length (α:=El u) xs)/\K (.sx h s 0 i.toNat) rs else False
   |none=>False)
  |some (.sl _ s _),some (.sx h s1 lo n),some (.int .i64 i)=>bif Nat.beq s s1 then(0<=i/\i<=(n:Nat))/\K (.sx h s lo i.toNat) rs else False
  |some (.sl _ s _),some (.rsl e xs),some (.int .i64 i)=>bif Nat.beq s e.size then(0<=i/\i<=(List.length (α:=El e) xs:Nat))/\K (.rsl e (List.take (α:=El e) i.toNat xs)) rs else False
  |_,_,_=>False
 |_=>False
def Ej(ti:TI)(t:TypeId)(v:SV)(K:List SV->Prop):Prop:=match lk ti t with
 |some (.st _ n _ _)=>match v with| .agg l=>bif Nat.beq l.length n&&oM l then K l else False|_=>False
 |some _=>bif rH v then K [v]else False
 |none=>False
def mW:(u:U)->El u->Nat->List SV->(El u->Prop)->Prop
 | .pair a b,x,o,l,K=>bif Nat.beq o 0&&Nat.beq l.length (U.pair a b).size then mkK (.pair a b) l [] (fun y _ _=>K y)
  else bif Nat.blt o a.size then(bif Nat.ble (o+l.length) a.size then mW a x.1 o l fun y=>K (y,x.2)else False)else mW b x.2 (o-a.size) l fun y=>K (x.1,y)
 | .tree _,_,_,_,_=>False
 |u,_,o,l,K=>bif Nat.beq o 0&&Nat.beq l.length 1 then mkK u l [] (fun y _ _=>K y)else False
def gW:(u:U)->El u->Nat->List SV->List Tok->(El u->List Tok->Prop)->Prop
 | .pair a b,x,o,l,rs,K=>bif Nat.beq o 0&&Nat.beq l.length (U.pair a b).size then mkK (.pair a b) l rs (fun y _ rs'=>K y rs')
  else bif Nat.blt o a.size then(bif Nat.ble (o+l.length) a.size then gW a x.1 o l rs fun y rs'=>K (y,x.2) rs' else False)else gW b x.2 (o-a.size) l rs fun y rs'=>K (x.1,y) rs'
 | .tree _,_,_,_,_,_=>False
 |u,_,o,l,rs,K=>bif Nat.beq o 0&&Nat.beq l.length 1 then mkK u l rs (fun y _ rs'=>K y rs')else False
def mq:(u:U)->El u->Nat->((e:U)->List (El e)->(List (El e)->El u)->Prop)->Prop
 | .pair a b,x,o,K=>bif Nat.blt o a.size then mq a x.1 o (fun e ys F=>K e ys fun l=>(F l,x.2))else mq b x.2 (o-a.size) fun e ys F=>K e ys fun l=>(x.1,F l)
 | .sl e,xs,o,K=>bif Nat.beq o 0 then K e xs id else False
 |_,_,_,_=>False
def qz:(u:U)->List SV->(El u->List SV->Prop)->Prop
 | .int k,c::l,K=>match c with| .int k' i=>bif k'==k then K i l else False|_=>False
 | .bool,c::l,K=>match c with| .bool b=>K b l|_=>False
 | .str,c::l,K=>match c with| .raw (.string x)=>K x l|_=>False
 | .pair a b,l,K=>qz a l fun x l'=>qz b l' fun y l''=>K (x,y) l''
 | .sl e,c::l,K=>match c with
  | .rsl e' xs=>if hu:gH e' e=true then K (coe (aB hu) xs) l else False
  | .raw (.slice none 0 0)=>K [] l
  |_=>False
 | .tree e,l,K=>qz e l fun x l'=>match l' with
  |c::l''=>(match c with
   | .rsl e' xs=>if hu:gH e' (.tree e)=true then K (.node x (coe (aB hu) xs)) l'' else False
   | .raw (.slice none 0 0)=>K (.node x []) l''
   |_=>False)
  |[]=>False
 |_,_,_=>False
def wO(u:U):SV->Bool
 | .agg l=>Nat.beq l.length u.size&&Nat.beq u.size 2
 |_=>Nat.beq 1 u.size
def gX(ti:TI)(env:Ev)(rs:List Tok)(g:Option (Nat×Bool))(op:Op)(K:List Tok->Prop):Prop:=match op with
 | .store t x y=>match evs env g x,evs env g y with
  |some (.ptr h o),some v=>match v with
   | .agg l=>match lk ti t with
    |some (.st _ n _ _)=>bif oM l&&Nat.beq l.length n then iF rs h fun t' cs rest=>setAt o l cs fun cs'=>K (.dn h t' cs'::rest)else False
    |_=>False
   |v=>match lk ti t with
    |some (.st _ _ _ _)=>False
    |some _=>bif rH v then iF rs h fun t' cs rest=>setAt o [v] cs fun cs'=>K (.dn h t' cs'::rest)else False
    |none=>False
  |some (.ep h s i o),some v=>Ej ti t v fun l=>match bP rs h with
   |none=>bC rs h fun e s1 u xs _ rest=>bif Nat.beq s s1 then gW u (elt (dflt u) xs i) o l rest fun y rest'=>K (.row h e s1 u (xs.set i.toNat y) []::rest')else False
   |some _=>lM rs h fun e s1 u xs rest=>bif Nat.beq s s1&&Nat.beq o 0 then qz u l fun y l'=>(match l' with
    |[]=>K (.dat h e s1 u (xs.set i.toNat y)::rest)
    |_::_=>False)else False
  |some (.np k o n hdr s2 i j),some v=>Ej ti t v fun l=>∃q,bC rs q fun e s u xs us rest=>mq u (elt (dflt u) xs k) o fun e2 ys F=>bif Nat.beq s2 e2.size&&bf e2 then
    (sG xs us k s o hdr/\0<=i/\i<(n:Nat))/\mW e2 (elt (dflt e2) ys i) j l fun y=>K (.row q e s u (xs.set k.toNat (F (List.set (α:=El e2) ys i.toNat y))) us::rest)else False
  |_,_=>False
 | .mapUpdate t x y z=>match lk ti t,evs env g x,evs env g y,evs env g z with
  |some (.mp u),some (.mp h),some (.int .i64 i),some v=>qp rs h fun u' kv rest=>bif gH u' u then(bif wO u' v then mkK u' (cellsOf v) [] fun y _ _=>K (.map h u' (nZ kv i y)::rest)else False)else False
  |some .mp2,some (.mp h),some (.agg [.int .i64 i,.int .i64 j]),some (.bool v)=>ni rs h fun kv rest=>K (.pmap h (nN kv (i,j) v)::rest)
  |_,_,_,_=>False
 | .call ⟨.builtin .clear,as0,ts⟩=>match as0.toList,ts.toList with
  |[x],[t]=>match lk ti t,evs env g x with
   |some (.sl e s _),some (.sx h s2 lo n)=>match lk ti e with
    |some z=>bC rs h fun e1 s1 u xs _ rest=>bif Nat.beq e1 e&&Nat.beq s1 s&&Nat.beq s2 s&&eG ((eH z).map iO) (aR u)&&Nat.beq (aR u).length s then lo+n=xs.length/\K (.row h e s u (xs.take lo++List.replicate n (dflt u)) []::rest)else False
    |none=>False
   |_,_=>False
  |_,_=>False
 |_=>False
inductive Kd where
 |pure|st|call
def kind:Op->Kd
 | .alloc _=>.st
 | .box _ _=>.st
 | .buildSlice _ _ _=>.st
 | .makeSlice _ _ _=>.st
 | .makeMap _ _=>.st
 | .slice _ _ none (some _) none=>.st
 | .call c=>match c.callee with
  | .value _=>.call
  | .builtin .append=>.st
  | .builtin .copy=>.st
  |_=>.pure
 |_=>.pure
def uq(env:Ev)(g:Option (Nat×Bool)):Op->Bool
 | .slice _ x (some _) none none=>match evs env g x with|some (.sl _)=>true|_=>false
 |_=>false
def bJ(P:Program)(ti:TI)(nt:Nat)(ops:List Oper)(dd:List Nat)(l:List Oper):Ev->List Tok->(Ev->List Tok->Prop)->Prop:=
 List.rec (motive:=fun _=>List Nat->Ev->List Tok->(Ev->List Tok->Prop)->Prop) (fun _ env rs K=>K env rs) (fun o _ ih dd env rs K=>match o.dst with
  |none=>match eB ops env o.guard with
   | .no=>False
   | .free=>gX ti env rs none o.op fun rs'=>ih dd env rs' K
   | .at gd gb gc=>(gc=true->gX ti env rs (some (gd,gb)) o.op fun rs'=>ih dd env rs' K)/\(gc=false->ih dd env rs K)
  |some d=>bif Nat.blt d nt&& !mem d dd then(match eB ops env o.guard with
   | .no=>False
   | .free=>match kind o.op with
    | .pure=>bif uq env none o.op then((kV P ti env rs none none o.op fun v=>ih (d::dd) ((d,v)::env) rs K)\/(bif au d env rs then gG P ti env rs none d o.op fun v rs'=>ih (d::dd) ((d,v)::env) rs' K else False))else kV P ti env rs none none o.op fun v=>ih (d::dd) ((d,v)::env) rs K
    | .st=>bif au d env rs then gG P ti env rs none d o.op fun v rs'=>ih (d::dd) ((d,v)::env) rs' K else False
    | .call=>(kV P ti env rs none none o.op fun v=>ih (d::dd) ((d,v)::env) rs K)\/(bif au d env rs then gG P ti env rs none d o.op fun v rs'=>ih (d::dd) ((d,v)::env) rs' K else False)
   | .at gd gb gc=>bif mem gd dd then(match kind o.op with
    | .pure=>kV P ti env rs (some (gd,gb)) (some gc) o.op fun v=>ih (d::dd) ((d,.gd gd gb v)::env) rs K
    | .st=>(gc=true->bif au d env rs then gG P ti env rs (some (gd,gb)) d o.op fun v rs'=>ih (d::dd) ((d,v)::env) rs' K else False)/\(gc=false->ih (d::dd) ((d,.un)::env) rs K)
    | .call=>(kV P ti env rs (some (gd,gb)) (some gc) o.op fun v=>ih (d::dd) ((d,.gd gd gb v)::env) rs K)\/
     ((gc=true->bif au d env rs then gG P ti env rs (some (gd,gb)) d o.op fun v rs'=>ih (d::dd) ((d,v)::env) rs' K else False)/\(gc=false->∃v,ih (d::dd) ((d,.gd gd gb v)::env) rs K)))else False)else False) l dd
theorem u6{P:Program}{ti:TI}{nt:Nat}{ops:List Oper}{dd:aK}{o:Oper}{rest:List Oper}{env:Ev}{rs:List Tok}{K:Ev->List Tok->Prop}:bJ P ti nt ops dd (o::rest) env rs K=(match o.dst with
  |none=>match eB ops env o.guard with
   | .no=>False
   | .free=>gX ti env rs none o.op fun rs'=>bJ P ti nt ops dd rest env rs' K
   | .at gd gb gc=>(gc=true->gX ti env rs (some (gd,gb)) o.op fun rs'=>bJ P ti nt ops dd rest env rs' K)/\(gc=false->bJ P ti nt ops dd rest env rs K)
  |some d=>bif Nat.blt d nt&& !mem d dd then(match eB ops env o.guard with
   | .no=>False
   | .free=>match kind o.op with
    | .pure=>bif uq env none o.op then((kV P ti env rs none none o.op fun v=>bJ P ti nt ops (d::dd) rest ((d,v)::env) rs K)\/(bif au d env rs then gG P ti env rs none d o.op fun v rs'=>bJ P ti nt ops (d::dd) rest ((d,v)::env) rs' K else False))else kV P ti env rs none none o.op fun v=>bJ P ti nt ops (d::dd) rest ((d,v)::env) rs K
    | .st=>bif au d env rs then gG P ti env rs none d o.op fun v rs'=>bJ P ti nt ops (d::dd) rest ((d,v)::env) rs' K else False
    | .call=>(kV P ti env rs none none o.op fun v=>bJ P ti nt ops (d::dd) rest ((d,v)::env) rs K)\/(bif au d env rs then gG P ti env rs none d o.op fun v rs'=>bJ P ti nt ops (d::dd) rest ((d,v)::env) rs' K else False)
   | .at gd gb gc=>bif mem gd dd then(match kind o.op with
    | .pure=>kV P ti env rs (some (gd,gb)) (some gc) o.op fun v=>bJ P ti nt ops (d::dd) rest ((d,.gd gd gb v)::env) rs K
    | .st=>(gc=true->bif au d env rs then gG P ti env rs (some (gd,gb)) d o.op fun v rs'=>bJ P ti nt ops (d::dd) rest ((d,v)::env) rs' K else False)/\(gc=false->bJ P ti nt ops (d::dd) rest ((d,.un)::env) rs K)
    | .call=>(kV P ti env rs (some (gd,gb)) (some gc) o.op fun v=>bJ P ti nt ops (d::dd) rest ((d,.gd gd gb v)::env) rs K)\/
     ((gc=true->bif au d env rs then gG P ti env rs (some (gd,gb)) d o.op fun v rs'=>bJ P ti nt ops (d::dd) rest ((d,v)::env) rs' K else False)/\(gc=false->∃v,bJ P ti nt ops (d::dd) rest ((d,.gd gd gb v)::env) rs K)))else False)else False):=rfl
structure aJ where
 tok:Tok
 prod:Option Nat
 cons:Option Nat
structure dH where
 i:Nat
 d:Nat
 v:SV
def aS{α:Type u}:List α->α->(List α->Prop)->Prop
 |[],x,K=>K [x]
 |y::l,x,K=>aS l x fun l'=>K (y::l')
def BM:List Nat->List Nat->List Nat
 |[],r=>r
 |x::l,r=>bif mem x r then BM l r else BM l (x::r)
def xM(anc:List (List Nat)):List Edge->List Nat->List Nat
 |[],r=>r
 |e::l,r=>bif Region.binds .any e then xM anc l (BM (match nth anc e.on with|some A=>e.on::A|none=>[e.on]) r)else xM anc l r
def uj:List Nat->(List Nat->Prop)->Prop
 |[],K=>K []
 |x::l,K=>uj l fun l'=>K (x::l')
def tT(anc:List (List Nat))(i j:Nat):Bool:=Nat.beq j i||(match nth anc j with|some A=>mem i A|none=>false)
def wS(anc:List (List Nat))(i:Nat):List dH->Ev->(Ev->Prop)->Prop
 |[],base,K=>K base
 |⟨xi,xd,xv⟩::l,base,K=>bif tT anc i xi then wS anc i l base fun l'=>K ((xd,xv)::l')else wS anc i l base K
def wK(A:List Nat):List dH->Ev->(Ev->Prop)->Prop
 |[],base,K=>K base
 |⟨xi,xd,xv⟩::l,base,K=>bif mem xi A then wK A l base fun l'=>K ((xd,xv)::l')else wK A l base K
def lI(env:Ev)(g:Option (Nat×Bool)):List Operand->List Nat->List Nat
 |[],r=>r
 |x::l,r=>match evs env g x with|some v=>v.names (lI env g l r)|none=>lI env g l r
def gJ:List Nat->List Nat->(List Nat->Prop)->Prop
 |[],ns,K=>K ns
 |g::l,ns,K=>bif mem g ns then gJ l ns K else gJ l (g::ns) K
def jC:List aJ->List Nat->(List Nat->Prop)->Prop
 |[],ns,K=>K ns
 |x::l,ns,K=>bif x.tok.CW ns then gJ (x.tok.names []) ns fun ns'=>jC l ns' K else jC l ns K
def fO(labs:List aJ):Nat->List Nat->(List Nat->Prop)->Prop
 |0,ns,K=>K ns
 |k+1,ns,K=>jC labs ns fun ns'=>fO labs k ns' K
theorem eY:∀{l ns:aK} {K:aK->Prop},gJ l ns K->∃ns',K ns'
 |[],ns,K,h=>⟨ns,h⟩
 |g::l,ns,K,h=>by
  unfold gJ at h;cases hb:mem g ns with
  |true=>rw[hb]at h;exact eY (l:=l) h
  |false=>rw[hb]at h;exact eY (l:=l) h
theorem iV:∀{l:List aJ} {ns:aK} {K:aK->Prop},jC l ns K->∃ns',K ns'
 |[],ns,K,h=>⟨ns,h⟩
 |x::l,ns,K,h=>by
  unfold jC at h;cases hb:x.tok.CW ns with
  |true=>
   rw[hb]at h;obtain⟨ns',h⟩:=eY h;exact iV (l:=l) h
  |false=>rw[hb]at h;exact iV (l:=l) h
theorem iD{labs:List aJ}:∀{k:Nat} {ns:aK} {K:aK->Prop},fO labs k ns K->∃ns',K ns'
 |0,ns,K,h=>⟨ns,h⟩
 |k+1,ns,K,h=>by
  unfold fO at h;obtain⟨ns',h⟩:=iV h;exact iD (k:=k) h
def q9(ns:List Nat):List aJ->Nat->(List Nat->List Tok->Prop)->Prop
 |[],_,K=>K [] []
 |x::l,i,K=>match x.cons with
  |none=>bif x.tok.CW ns then q9 ns l (i+1) fun r t=>K (i::r) (x.tok::t)else q9 ns l (i+1) K
  |some _=>q9 ns l (i+1) K
def bQ(k:Nat)(ns:List Nat):List aJ->(List aJ->List Tok->Prop)->Prop
 |[],K=>K [] []
 |x::l,K=>match x.cons with
  |none=>bif x.tok.CW ns then bQ k ns l fun r t=>K (⟨x.tok,x.prod,some k⟩::r) (x.tok::t)else bQ k ns l fun r t=>K (⟨x.tok,x.prod,none⟩::r) t
  |some c=>bQ k ns l fun r t=>K (⟨x.tok,x.prod,some c⟩::r) t
def yY(k:Nat):List Tok->(List aJ->Prop)->Prop
 |[],K=>K []
 |t::ts,K=>yY k ts fun r=>K (⟨t,some k,none⟩::r)
def xP:List aJ->List aJ->(List aJ->Prop)->Prop
 |[],e,K=>K e
 |x::l,e,K=>xP l e fun r=>K (x::r)
def bY(k:Nat)(l:List aJ)(ts:List Tok)(K:List aJ->Prop):Prop:=yY k ts fun r=>xP l r K
def uT:List Tok->(List aJ->Prop)->Prop
 |[],K=>K []
 |t::ts,K=>uT ts fun r=>K (⟨t,none,none⟩::r)
def oD:List aJ->(List Tok->Prop)->Prop
 |[],K=>K []
 |x::l,K=>match x.cons with
  |none=>oD l fun r=>K (x.tok::r)
  |some _=>oD l K
def xK:List dH->Ev->(Ev->Prop)->Prop
 |[],base,K=>K base
 |⟨_,xd,xv⟩::l,base,K=>xK l base fun l'=>K ((xd,xv)::l')
def iP:List Oper->Nat->List (Nat×Nat)
 |[],_=>[]
 |o::l,i=>match o.dst with|some d=>(d,i)::iP l (i+1)|none=>iP l (i+1)
def aX(dl:List (Nat×Nat))(i:Nat)(A:List Nat):List Nat->Bool
 |[]=>true
 |g::l=>(match lk dl (g % 1000000)with|none=>true|some k=>Nat.beq k i||mem k A)&&aX dl i A l
def rM(dl:List (Nat×Nat)):List Nat->Bool
 |[]=>true
 |g::l=>(match lk dl (g % 1000000)with|none=>true|some _=>false)&&rM dl l
def fB:List aJ->List Nat->List Nat
 |[],r=>r
 |x::l,r=>x.tok.names (fB l r)
def nU(dl:List (Nat×Nat)):List Nat->Ev->(Ev->List dH->Prop)->Prop
 |_,[],K=>K [] []
 |seen,(t,v)::l,K=>match lk dl t with
  |some j=>bif mem t seen then nU dl seen l K else nU dl (t::seen) l (fun l' o=>K l' (⟨j,t,v⟩::o))
  |none=>nU dl seen l fun l' o=>K ((t,v)::l') o
def jZ:List aJ->List Nat->List Nat
 |[],r=>r
 |x::l,r=>match x.tok with
  | .row g _ _ _ _ _=>g::jZ l r
  |_=>jZ l r
def wants(env:Ev)(g:Option (Nat×Bool)):List Operand->Bool
 |[]=>false
 |x::l=>match evs env g x with
  |some (.nh _ _ _ _)=>true
  |some (.np _ _ _ _ _ _ _)=>true
  |_=>wants env g l
def dS(env:Ev)(g:Option (Nat×Bool))(l:List Operand)(labs:List aJ):List Nat:=bif wants env g l then jZ labs (lI env g l [])else lI env g l []
def AY:Op->Bool
 | .load _ _=>true
 | .indexAddr _ _ _=>true
 | .call _=>true
 | .lookup _ _ _ _=>true
 | .slice _ _ (some _) none none=>true
 |_=>false
def yM:Op->Bool
 | .slice _ _ none (some _) none=>true
 |_=>false
def yN(env:Ev):Op->Bool
 | .call c=>match c.callee,c.args.toList with
  | .builtin .append,[_,y]=>(match evs env none y with|some (.sx _ _ _ _)=>true|_=>false)
  |_,_=>false
 |_=>false
def fD:List dH->List Nat->List Nat
 |[],r=>r
 |x::l,r=>x.v.names (fD l r)
def xO:List Oper->List (List Nat)->(List (List Nat)->Prop)->Prop
 |[],anc,K=>K anc
 |o::l,anc,K=>uj (xM anc o.after.toList []) fun A=>aS anc A fun anc'=>xO l anc' K
def jQ(ops:List Oper)(env:Ev)(A:List Nat)(g:Option (Nat×Bool)):G:=match g with
 |none=>.free
 |some (j,b)=>bif mem j A then eB ops env (some (j,b))else .no
def bO:SV->Bool
 | .gd _ _ _=>false
 |_=>true
def jL(P:Program)(ti:TI)(nt:Nat)(ops:List Oper)(dl:List (Nat×Nat))(base:Ev)(olds:List dH)(anc:List (List Nat))(i:Nat)(l:List Oper):List dH->List aJ->List (List Nat)->(Ev->List Tok->Prop)->Prop:=
 List.rec (motive:=fun _=>Nat->List dH->List aJ->List (List Nat)->(Ev->List Tok->Prop)->Prop) (fun _ ents labs rds K=>bM.good ⟨rds,labs.map (fun x=>⟨x.prod,x.cons⟩),anc⟩ ops.toArray nt=true/\xK ents base fun env=>oD labs fun rs=>K env rs) (fun o _ ih i ents labs rds K=>match nth anc i with
  |none=>False
  |some A=>wS anc i olds base fun base'=>wK A ents base' fun env=>
  match jQ ops env A o.guard,o.dst with
  | .no,_=>False
  | .free,none=>bQ i (dS env none o.op.operands.toList labs) labs fun labs1 rs=>gX ti env rs none o.op fun rs'=>(bif aX dl i A (aF rs' [])then bY i labs1 rs' fun labs2=>aS rds [] fun rds'=>ih (i+1) ents labs2 rds' K else False)
  | .at _ _ _,none=>False
  | .free,some d=>bif !Nat.blt d nt then False else match kind o.op with
   | .pure=>q9 (bif AY o.op then dS env none o.op.operands.toList labs else[]) labs 0 fun rd rs=>kV P ti env rs none none o.op fun v=>bif bO v&&aX dl i A (v.names [])then aS rds rd fun rds'=>ih (i+1) (⟨i,d,v⟩::ents) labs rds' K else False
   | .st=>bif yM o.op then((q9 (dS env none o.op.operands.toList labs) labs 0 fun rd rs=>bif au d env rs then gG P ti env rs none d o.op fun v rs'=>rs'=rs/\(bif bO v&&aX dl i A (v.names [])then aS rds rd fun rds'=>ih (i+1) (⟨i,d,v⟩::ents) labs rds' K else False)else False)\/(bQ i (dS env none o.op.operands.toList labs) labs fun labs1 rs=>bif au d env rs then gG P ti env rs none d o.op fun v rs'=>(bif bO v&&aX dl i A (v.names (aF rs' []))then bY i labs1 rs' fun labs2=>aS rds [] fun rds'=>ih (i+1) (⟨i,d,v⟩::ents) labs2 rds' K else False)else False))else(bif yN env o.op then((∃tk:List Nat,bQ i tk labs fun labs1 rs1=>q9 (dS env none o.op.operands.toList labs) labs1 0 fun rd rs=>bif au d env (rs1++rs)then gG P ti env (rs1++rs) none d o.op fun v rs'=>∃new,rs'=new++rs/\(bif bO v&&aX dl i A (v.names (aF new []))then bY i labs1 new fun labs2=>aS rds rd fun rds'=>ih (i+1) (⟨i,d,v⟩::ents) labs2 rds' K else False)else False)\/(bQ i (dS env none o.op.operands.toList labs) labs fun labs1 rs=>bif au d env rs then gG P ti env rs none d o.op fun v rs'=>(bif bO v&&aX dl i A (v.names (aF rs' []))then bY i labs1 rs' fun labs2=>aS rds [] fun rds'=>ih (i+1) (⟨i,d,v⟩::ents) labs2 rds' K else False)else False))else(bQ i (dS env none o.op.operands.toList labs) labs fun labs1 rs=>bif au d env rs then gG P ti env rs none d o.op fun v rs'=>(bif bO v&&aX dl i A (v.names (aF rs' []))then bY i labs1 rs' fun labs2=>aS rds [] fun rds'=>ih (i+1) (⟨i,d,v⟩::ents) labs2 rds' K else False)else False))
   | .call=>(gJ (dS env none o.op.operands.toList labs) [] fun ns0=>match ns0 with
    |[]=>kV P ti env [] none none o.op fun v=>bif bO v&&aX dl i A (v.names [])then aS rds [] fun rds'=>ih (i+1) (⟨i,d,v⟩::ents) labs rds' K else False
    |_::_=>fO labs 4 ns0 fun ns=>(q9 ns labs 0 fun rd rs=>bif au d env rs then gG P ti env rs none d o.op fun v rs'=>∃new,rs'=rs++new/\(bif bO v&&aX dl i A (v.names (aF new []))then bY i labs new fun labs2=>aS rds rd fun rds'=>ih (i+1) (⟨i,d,v⟩::ents) labs2 rds' K else False)else False)\/
     (∃tk:List Nat,bQ i tk labs fun labs1 rs1=>q9 ns labs1 0 fun rd rs=>bif au d env (rs++rs1)then gG P ti env (rs++rs1) none d o.op fun v rs'=>∃new,rs'=rs++new/\(bif bO v&&aX dl i A (v.names (aF new []))then bY i labs1 new fun labs2=>aS rds rd fun rds'=>ih (i+1) (⟨i,d,v⟩::ents) labs2 rds' K else False)else False))\/
    (gJ (dS env none o.op.operands.toList labs) [] fun ns0=>fO labs 4 ns0 fun ns=>bQ i ns labs fun labs1 rs=>bif au d env rs then gG P ti env rs none d o.op fun v rs'=>(bif bO v&&aX dl i A (v.names (aF rs' []))then bY i labs1 rs' fun labs2=>aS rds [] fun rds'=>ih (i+1) (⟨i,d,v⟩::ents) labs2 rds' K else False)else False)
  | .at gd gb gc,some d=>bif Nat.beq gd d|| !Nat.blt d nt then False else match kind o.op with
   | .st=>(gc=true->bQ i (dS env (some (gd,gb)) o.op.operands.toList labs) labs fun labs1 rs=>bif au d env rs then gG P ti env rs (some (gd,gb)) d o.op fun v rs'=>(bif bO v&&aX dl i A (v.names (aF rs' []))then bY i labs1 rs' fun labs2=>aS rds [] fun rds'=>ih (i+1) (⟨i,d,v⟩::ents) labs2 rds' K else False)else False)/\(gc=false->aS rds [] fun rds'=>ih (i+1) (⟨i,d,.un⟩::ents) labs rds' K)
   | .pure=>q9 (bif AY o.op then dS env (some (gd,gb)) o.op.operands.toList labs else[]) labs 0 fun rd rs=>kV P ti env rs (some (gd,gb)) (some gc) o.op fun v=>bif bO v&&aX dl i A (v.names [])then aS rds rd fun rds'=>ih (i+1) (⟨i,d,.gd gd gb v⟩::ents) labs rds' K else False
   | .call=>(kV P ti env [] (some (gd,gb)) (some gc) o.op fun v=>bif bO v&&aX dl i A (v.names [])then aS rds [] fun rds'=>ih (i+1) (⟨i,d,.gd gd gb v⟩::ents) labs rds' K else False)\/
    ((gc=true->gJ (dS env (some (gd,gb)) o.op.operands.toList labs) [] fun ns0=>fO labs 4 ns0 fun ns=>bQ i ns labs fun labs1 rs=>bif au d env rs then gG P ti env rs (some (gd,gb)) d o.op fun v rs'=>(bif bO v&&aX dl i A (v.names (aF rs' []))then bY i labs1 rs' fun labs2=>aS rds [] fun rds'=>ih (i+1) (⟨i,d,v⟩::ents) labs2 rds' K else False)else False)/\(gc=false->∃v,bif bO v&&aX dl i A (v.names [])then aS rds [] fun rds'=>ih (i+1) (⟨i,d,.gd gd gb v⟩::ents) labs rds' K else False))) l i
theorem Bg{P:Program}{ti:TI}{nt:Nat}{ops:List Oper}{dl:List (Nat×Nat)}{base:Ev}{olds:List dH}{anc:List (List Nat)}{i:Nat}{ents:List dH}{labs:List aJ}{rds:List (List Nat)}{K:Ev->List Tok->Prop}:jL P ti nt ops dl base olds anc i [] ents labs rds K=(bM.good ⟨rds,labs.map (fun x=>⟨x.prod,x.cons⟩),anc⟩ ops.toArray nt=true/\xK ents base fun env=>oD labs fun rs=>K env rs):=rfl
theorem zR{P:Program}{ti:TI}{nt:Nat}{ops:List Oper}{dl:List (Nat×Nat)}{base:Ev}{olds:List dH}{anc:List (List Nat)}{i:Nat}{o:Oper}{rest:List Oper}{ents:List dH}{labs:List aJ}{rds:List (List Nat)}{K:Ev->List Tok->Prop}:jL P ti nt ops dl base olds anc i (o::rest) ents labs rds K=(match nth anc i with
  |none=>False
  |some A=>wS anc i olds base fun base'=>wK A ents base' fun env=>
  match jQ ops env A o.guard,o.dst with
  | .no,_=>False
  | .free,none=>bQ i (dS env none o.op.operands.toList labs) labs fun labs1 rs=>gX ti env rs none o.op fun rs'=>(bif aX dl i A (aF rs' [])then bY i labs1 rs' fun labs2=>aS rds [] fun rds'=>jL P ti nt ops dl base olds anc (i+1) rest ents labs2 rds' K else False)
  | .at _ _ _,none=>False
  | .free,some d=>bif !Nat.blt d nt then False else match kind o.op with
   | .pure=>q9 (bif AY o.op then dS env none o.op.operands.toList labs else[]) labs 0 fun rd rs=>kV P ti env rs none none o.op fun v=>bif bO v&&aX dl i A (v.names [])then aS rds rd fun rds'=>jL P ti nt ops dl base olds anc (i+1) rest (⟨i,d,v⟩::ents) labs rds' K else False
   | .st=>bif yM o.op then((q9 (dS env none o.op.operands.toList labs) labs 0 fun rd rs=>bif au d env rs then gG P ti env rs none d o.op fun v rs'=>rs'=rs/\(bif bO v&&aX dl i A (v.names [])then aS rds rd fun rds'=>jL P ti nt ops dl base olds anc (i+1) rest (⟨i,d,v⟩::ents) labs rds' K else False)else False)\/(bQ i (dS env none o.op.operands.toList labs) labs fun labs1 rs=>bif au d env rs then gG P ti env rs none d o.op fun v rs'=>(bif bO v&&aX dl i A (v.names (aF rs' []))then bY i labs1 rs' fun labs2=>aS rds [] fun rds'=>jL P ti nt ops dl base olds anc (i+1) rest (⟨i,d,v⟩::ents) labs2 rds' K else False)else False))else(bif yN env o.op then((∃tk:List Nat,bQ i tk labs fun labs1 rs1=>q9 (dS env none o.op.operands.toList labs) labs1 0 fun rd rs=>bif au d env (rs1++rs)then gG P ti env (rs1++rs) none d o.op fun v rs'=>∃new,rs'=new++rs/\(bif bO v&&aX dl i A (v.names (aF new []))then bY i labs1 new fun labs2=>aS rds rd fun rds'=>jL P ti nt ops dl base olds anc (i+1) rest (⟨i,d,v⟩::ents) labs2 rds' K else False)else False)\/(bQ i (dS env none o.op.operands.toList labs) labs fun labs1 rs=>bif au d env rs then gG P ti env rs none d o.op fun v rs'=>(bif bO v&&aX dl i A (v.names (aF rs' []))then bY i labs1 rs' fun labs2=>aS rds [] fun rds'=>jL P ti nt ops dl base olds anc (i+1) rest (⟨i,d,v⟩::ents) labs2 rds' K else False)else False))else(bQ i (dS env none o.op.operands.toList labs) labs fun labs1 rs=>bif au d env rs then gG P ti env rs none d o.op fun v rs'=>(bif bO v&&aX dl i A (v.names (aF rs' []))then bY i labs1 rs' fun labs2=>aS rds [] fun rds'=>jL P ti nt ops dl base olds anc (i+1) rest (⟨i,d,v⟩::ents) labs2 rds' K else False)else False))
   | .call=>(gJ (dS env none o.op.operands.toList labs) [] fun ns0=>match ns0 with
    |[]=>kV P ti env [] none none o.op fun v=>bif bO v&&aX dl i A (v.names [])then aS rds [] fun rds'=>jL P ti nt ops dl base olds anc (i+1) rest (⟨i,d,v⟩::ents) labs rds' K else False
    |_::_=>fO labs 4 ns0 fun ns=>(q9 ns labs 0 fun rd rs=>bif au d env rs then gG P ti env rs none d o.op fun v rs'=>∃new,rs'=rs++new/\(bif bO v&&aX dl i A (v.names (aF new []))then bY i labs new fun labs2=>aS rds rd fun rds'=>jL P ti nt ops dl base olds anc (i+1) rest (⟨i,d,v⟩::ents) labs2 rds' K else False)else False)\/
     (∃tk:List Nat,bQ i tk labs fun labs1 rs1=>q9 ns labs1 0 fun rd rs=>bif au d env (rs++rs1)then gG P ti env (rs++rs1) none d o.op fun v rs'=>∃new,rs'=rs++new/\(bif bO v&&aX dl i A (v.names (aF new []))then bY i labs1 new fun labs2=>aS rds rd fun rds'=>jL P ti nt ops dl base olds anc (i+1) rest (⟨i,d,v⟩::ents) labs2 rds' K else False)else False))\/
    (gJ (dS env none o.op.operands.toList labs) [] fun ns0=>fO labs 4 ns0 fun ns=>bQ i ns labs fun labs1 rs=>bif au d env rs then gG P ti env rs none d o.op fun v rs'=>(bif bO v&&aX dl i A (v.names (aF rs' []))then bY i labs1 rs' fun labs2=>aS rds [] fun rds'=>jL P ti nt ops dl base olds anc (i+1) rest (⟨i,d,v⟩::ents) labs2 rds' K else False)else False)
  | .at gd gb gc,some d=>bif Nat.beq gd d|| !Nat.blt d nt then False else match kind o.op with
   | .st=>(gc=true->bQ i (dS env (some (gd,gb)) o.op.operands.toList labs) labs fun labs1 rs=>bif au d env rs then gG P ti env rs (some (gd,gb)) d o.op fun v rs'=>(bif bO v&&aX dl i A (v.names (aF rs' []))then bY i labs1 rs' fun labs2=>aS rds [] fun rds'=>jL P ti nt ops dl base olds anc (i+1) rest (⟨i,d,v⟩::ents) labs2 rds' K else False)else False)/\(gc=false->aS rds [] fun rds'=>jL P ti nt ops dl base olds anc (i+1) rest (⟨i,d,.un⟩::ents) labs rds' K)
   | .pure=>q9 (bif AY o.op then dS env (some (gd,gb)) o.op.operands.toList labs else[]) labs 0 fun rd rs=>kV P ti env rs (some (gd,gb)) (some gc) o.op fun v=>bif bO v&&aX dl i A (v.names [])then aS rds rd fun rds'=>jL P ti nt ops dl base olds anc (i+1) rest (⟨i,d,.gd gd gb v⟩::ents) labs rds' K else False
   | .call=>(kV P ti env [] (some (gd,gb)) (some gc) o.op fun v=>bif bO v&&aX dl i A (v.names [])then aS rds [] fun rds'=>jL P ti nt ops dl base olds anc (i+1) rest (⟨i,d,.gd gd gb v⟩::ents) labs rds' K else False)\/
    ((gc=true->gJ (dS env (some (gd,gb)) o.op.operands.toList labs) [] fun ns0=>fO labs 4 ns0 fun ns=>bQ i ns labs fun labs1 rs=>bif au d env rs then gG P ti env rs (some (gd,gb)) d o.op fun v rs'=>(bif bO v&&aX dl i A (v.names (aF rs' []))then bY i labs1 rs' fun labs2=>aS rds [] fun rds'=>jL P ti nt ops dl base olds anc (i+1) rest (⟨i,d,v⟩::ents) labs2 rds' K else False)else False)/\(gc=false->∃v,bif bO v&&aX dl i A (v.names [])then aS rds [] fun rds'=>jL P ti nt ops dl base olds anc (i+1) rest (⟨i,d,.gd gd gb v⟩::ents) labs rds' K else False))):=rfl
def Bh(P:Program)(ti:TI)(nt:Nat)(ops:List Oper)(env:Ev)(rs:List Tok)(K:Ev->List Tok->Prop):Prop:=
 nU (iP ops 0) [] env fun base olds=>xO ops [] fun anc=>uT rs fun labs=>bif rM (iP ops 0) (eu base (fD olds (fB labs [])))then jL P ti nt ops (iP ops 0) base olds anc 0 ops [] labs [] K else False
def jk:List Nat->Ev->(Ev->Prop)->Prop
 |_,[],K=>K []
 |dl,(t,v)::l,K=>match v with
  | .gd _ _ _=>jk (t::dl) l K
  |v=>bif mem t dl then jk dl l K else jk dl l fun l'=>K ((t,v)::l')
def gK:List Oper->Bool
 |[]=>false
 |o::l=>match o.guard with|some _=>true|none=>gK l
def rW(env:Ev):Ev->Prop
 |[]=>True
 |(t,v)::l=>match lk env t with
  |some u=>uU u v/\rW env l
  |none=>False
def cO:List Oper->List Nat->List Nat
 |[],r=>r
 |o::l,r=>match o.dst with|some d=>d::cO l r|none=>cO l r
def wr:Code->List Nat->List Nat
 | .seq a b,r=>wr a (wr b r)
 | .cond _ a b,r=>wr a (wr b r)
 | .block _ a,r=>wr a r
 | .region _ ops _,r=>cO ops.toList r
 | .loop a,r=>wr a r
 |_,r=>r
def l9:List Nat->List Nat->Bool
 |[],_=>false
 |t::l,m=>bif mem (t % 1000000) m||Nat.ble 20000 (t % 1000000)then true else l9 l m
def l5:List Nat->Ev->(Ev->Prop)->Prop
 |_,[],K=>K []
 |wl,(t,v)::l,K=>bif mem t wl then l5 wl l K else bif l9 (v.names []) wl then l5 (t::wl) l K else l5 wl l fun l'=>K ((t,v)::l')
def Ae:Ev->Ev->(Ev->Prop)->Prop
 |[],e,K=>K e
 |(t,v)::l,e,K=>Ae l e fun l'=>K ((t,v)::l')
structure Lp where
 σ:Type
 U:σ->Ev
 T:σ->List Tok
 μ:σ->Nat
 I:σ->Prop
 s0:σ
 G:σ->(List Tok->Prop)->Prop
 ok:∀(s:σ) (K:List Tok->Prop) (cx:Cx) (β:Nat->Value) (w:World) (R:List aM),G s K->Inv cx.w0 cx.F0 w ((T s).map (Tok.res cx β)++R)->∃rs',K rs'/\Inv cx.w0 cx.F0 w (rs'.map (Tok.res cx β)++R)
def rR:List (Nat×Nat)->Bool
 |[]=>true
 |(g,_)::l=>Nat.ble 20000 g&&Nat.blt g 1000000&&rR l
structure tO where
 t:Nat
 g:Nat
 e:TypeId
 s:Nat
 u:U
def kK(m:tO):Tok:=bif Nat.ble 500000 m.g then .dat m.g m.e m.s m.u []else .row m.g m.e m.s m.u [] []
def jw(g:Nat):Nat->List SV->Option (List SV)
 |0,.raw (.slice none 0 0)::l=>some (.sl g::l)
 |i+1,c::l=>match jw g i l with|some r=>some (c::r)|none=>none
 |_,_=>none
def kJ:List tO->Ev->List Tok->(Ev->List Tok->Prop)->Prop
 |[],env,rs,K=>K env rs
 |m::l,env,rs,K=>match(Nat.ble 20000 m.g&&Nat.blt m.g 1000000)&&au m.g env rs&&Nat.beq m.u.size m.s with
  |true=>match Nat.blt m.t 1000000 with
   |true=>match lk env m.t with
    |some (.raw (.slice none 0 0))=>kJ l ((m.t,.sl m.g)::env) (kK m::rs) K
    |_=>False
   |false=>iF rs (m.t % 1000000) fun t cs rest=>match jw m.g (m.t/1000000-1) cs with
    |some cs'=>kJ l env (kK m:: .dn (m.t % 1000000) t cs'::rest) K
    |none=>False
  |false=>False
def gQ(env:Ev)(rs:List Tok)(U:Ev)(T:List Tok):Prop:=∃(σ:List (Nat×Nat)) (M:List tO),rR σ=true/\kJ M env rs fun env rs=>(w9 false σ U fun U'=>rW env U')/\gu false σ T fun T'=>bI rs T'
def vc(P:Program)(ti:TI)(nt:Nat)(c:Code):Ev->List Tok->(X->Ev->List Tok->Prop)->Prop:=
 Code.rec (motive:=fun _=>Ev->List Tok->(X->Ev->List Tok->Prop)->Prop)
  (fun env rs K=>K .n env rs)
  (fun _ ops draw env rs K=>match draw with
   |false=>bJ P ti nt ops.toList [] ops.toList env rs fun env' rs'=>bif gK ops.toList then jk [] env' (fun env''=>K .n env'' rs')else K .n env' rs'
   |true=>Bh P ti nt ops.toList env rs fun env' rs'=>bif gK ops.toList then jk [] env' (fun env''=>K .n env'' rs')else K .n env' rs')
  (fun _ _ ih_a ih_b env rs K=>ih_a env rs fun e env' rs'=>match e with| .n=>ih_b env' rs' K|e=>K e env' rs')
  (fun c _ _ ih_a ih_b env rs K=>match evs env none c with
  |some (.bool t)=>(t=true->ih_a env rs K)/\(t=false->ih_b env rs K)
  |_=>False)
  (fun id _ ih_a env rs K=>ih_a env rs fun e env' rs'=>match e with
  | .x id'=>bif Nat.beq id' id then K .n env' rs' else K (.x id') env' rs'
  |e=>K e env' rs')
  (fun body ih_body env rs K=>∃L:Lp,(L.I L.s0/\gQ env rs (L.U L.s0) (L.T L.s0))/\∀s,L.I s->l5 (wr body []) env fun kept=>Ae (L.U s) kept fun env1=>L.G s fun rsG=>ih_body env1 rsG fun e env' rs'=>match e with
  | .n=>∃s',(L.I s'/\gQ env' rs' (L.U s') (L.T s'))/\L.μ s'<L.μ s
  |e=>K e env' rs')
  (fun _ _ _ _ _ _ _ _ _=>False)
  (fun id env rs K=>K (.x id) env rs)
  (fun _ _ _ _ _=>False)
  (fun _ _ _ _=>False)
  (fun _ _ _ _=>False)
  (fun env rs K=>K .r env rs)
  (fun _ _ _ _=>False) c
section
variable {P:Program}{ti:TI}{nt:Nat}{env:Ev}{rs:List Tok}{K:X->Ev->List Tok->Prop}
theorem CS{a b:Code}:vc P ti nt (.seq a b) env rs K=(vc P ti nt a env rs fun e env' rs'=>match e with| .n=>vc P ti nt b env' rs' K|e=>K e env' rs'):=rfl
theorem Bl{c:Operand}{a b:Code}:vc P ti nt (.cond c a b) env rs K=(match evs env none c with
  |some (.bool t)=>(t=true->vc P ti nt a env rs K)/\(t=false->vc P ti nt b env rs K)
  |_=>False):=rfl
theorem zT{id:Nat}{a:Code}:vc P ti nt (.block id a) env rs K=(vc P ti nt a env rs fun e env' rs'=>match e with
  | .x id'=>bif Nat.beq id' id then K .n env' rs' else K (.x id') env' rs'
  |e=>K e env' rs'):=rfl
theorem CQ{id:Nat}{ops:Array Oper}:vc P ti nt (.region id ops false) env rs K=(bJ P ti nt ops.toList [] ops.toList env rs fun env' rs'=>bif gK ops.toList then jk [] env' (fun env''=>K .n env'' rs')else K .n env' rs'):=rfl
theorem Bn{id:Nat}{ops:Array Oper}:vc P ti nt (.region id ops true) env rs K=(Bh P ti nt ops.toList env rs fun env' rs'=>bif gK ops.toList then jk [] env' (fun env''=>K .n env'' rs')else K .n env' rs'):=rfl
theorem Bo{body:Code}:vc P ti nt (.loop body) env rs K=(∃L:Lp,(L.I L.s0/\gQ env rs (L.U L.s0) (L.T L.s0))/\∀s,L.I s->l5 (wr body []) env fun kept=>Ae (L.U s) kept fun env1=>L.G s fun rsG=>vc P ti nt body env1 rsG fun e env' rs'=>match e with
  | .n=>∃s',(L.I s'/\gQ env' rs' (L.U s') (L.T s'))/\L.μ s'<L.μ s
  |e=>K e env' rs'):=rfl
end
def mE(ti:TI)(env:Ev)(rs:List Tok):List ResultVar->Option (List SV)
 |[]=>some []
 | .tmp t::l=>match lk env t,mE ti env rs l with|some v,some r=>some (v::r)|_,_=>none
 | .cell t ty::l=>match lk env t with
  |some (.ptr g 0)=>match bU rs g,lk ti ty with
   |some cs,some (.st _ n _ _)=>bif Nat.beq cs.length n then(match mE ti env rs l with|some r=>some (.agg cs::r)|none=>none)else none
   |some [v],some _=>match mE ti env rs l with|some r=>some (v::r)|none=>none
   |_,_=>none
  |_=>none
def sI(ti:TI)(env:Ev)(rs:List Tok)(rv:List ResultVar)(r:SV):Prop:=match mE ti env rs rv with
 |some [v]=>uU v r
 |some l=>uU (.tup l) r
 |none=>False
def kE:List SV->Nat->Ev->Ev
 |[],_,e=>e
 |v::l,i,e=>kE l (i+1) ((i,v)::e)
def vcF(P:Program)(ti:TI)(nt:Nat)(c:Code)(rv:List ResultVar)(args:List SV)(r:SV):Prop:=
 vc P ti nt c (kE args 0 []) [] fun e env rs=>match e with| .x _=>False|_=>sI ti env rs rv r
def uo:Nat->Nat->List (Nat×Nat)
 |0,_=>[]
 |n+1,i=>(i,i)::uo n (i+1)
def iM:List (Nat×Nat)->List (Nat×Nat)->List (Nat×Nat)
 |[],e=>e
 |x::l,e=>x::iM l e
def EH(P:Program)(ti:TI)(nt:Nat)(c:Code)(rv:List ResultVar)(args:List SV)(ts:List Tok)(r:SV)(ts':List Tok):Prop:=
 vc P ti nt c (kE args 0 []) ts fun e env rs=>match e with
  | .x _=>False
  |_=>∃(σ:List (Nat×Nat)) (M:List tO),kJ M env rs fun env rs=>BF true (iM (uo ts.length 10000) σ) r (fun r'=>sI ti env rs rv r')/\gu true (iM (uo ts.length 10000) σ) ts' fun ts''=>bI rs ts''
end Go.Tr
namespace Go.Tr
open Go Go.RowKit
universe u
theorem ak{a b:Nat}(h:Nat.beq a b=true):a=b:=Nat.eq_of_beq_eq_true h
theorem bX{e:U}(x:Tree (El e)):enc (.tree e) x=enc e x.val++[.sl x.kids.length (List.flatMap (enc (.tree e)) x.kids)]:=by
 cases x with
 |node x l=>
  show wJ (enc e) (.node x l)=enc e x++[.sl l.length (List.flatMap (wJ (enc e)) l)];unfold wJ;rw[rV]
theorem aN:∀(u:U) (x:El u),(enc u x).length=u.size
 | .tree e,x=>by rw[bX];simp[U.size,aN e x.val]
 | .int _,_| .bool,_| .str,_| .any,_| .sl _,_=>rfl
 | .pair a b,x=>by simp[enc,U.size,aN a x.1,aN b x.2]
theorem bS:∀(u:U) (x:El u),(aW u x).length=u.size
 | .tree e,x=>by simp[aW,U.size,bS e x.val]
 | .int _,_| .bool,_| .str,_| .any,_| .sl _,_=>rfl
 | .pair a b,x=>by simp[aW,U.size,bS a x.1,bS b x.2]
theorem U.size_pos:∀u:U,0<u.size
 | .int _| .bool| .str| .any| .sl _=>Nat.one_pos
 | .pair a b=>by simp only[U.size];have:=U.size_pos a;omega
 | .tree a=>by simp only[U.size];omega
section
variable {cx:Cx}{β:Nat->Value}
theorem ah.app:∀{l m:List SV} {us vs:aO},ah cx β l us->ah cx β m vs->ah cx β (l++m) (us++vs)
 |[],m,us,vs,h,k=>by unfold ah at h;subst h;exact k
 |s::l,m,us,vs,h,k=>by
  unfold ah at h;obtain⟨v,vs',rfl,h1,h2⟩:=h;show ah cx β (s::(l++m)) (v::(vs'++vs));unfold ah;exact⟨v,_,rfl,h1,h2.app k⟩
theorem ah.one{s:SV}{v:Value}(h:Den cx β s v):ah cx β [s] [v]:=by unfold ah;exact⟨v,[],rfl,h,by unfold ah;rfl⟩
theorem ah.len:∀{l:List SV} {us:aO},ah cx β l us->us.length=l.length
 |[],us,h=>by unfold ah at h;subst h;rfl
 |s::l,us,h=>by
  unfold ah at h;obtain⟨v,vs',rfl,h1,h2⟩:=h;simp[h2.len]
theorem ah.get:∀{l:List SV} {us:aO} {i:Nat} {s:SV},ah cx β l us->nth l i=some s->∃v,us[i]? =some v/\Den cx β s v
 |[],us,i,s,h,hs=>by unfold nth at hs;cases hs
 |x::l,us,0,s,h,hs=>by
  unfold ah at h;obtain⟨v,vs',rfl,h1,h2⟩:=h;unfold nth at hs;injection hs with hs
  subst hs;exact⟨v,rfl,h1⟩
 |x::l,us,i+1,s,h,hs=>by
  unfold ah at h;obtain⟨v,vs',rfl,h1,h2⟩:=h;unfold nth at hs;simpa using h2.get hs
theorem eO.append{w0:World}{F0:aK}{d1 d2:List D}{us:aO}(h:eO w0 F0 (d1++d2) us):∃u1 u2,us=u1++u2/\eO w0 F0 d1 u1/\eO w0 F0 d2 u2:=by
 obtain⟨bs,h1,h2⟩:=h;obtain⟨b1,b2,u1,u2,rfl,rfl,h6,h7⟩:=TN.append.1 h1;exact⟨u1,u2,rfl,⟨b1,h6,fun y hy=>h2 y (by simp[hy])⟩,⟨b2,h7,fun y hy=>h2 y (by simp[hy])⟩⟩
theorem eO.v1{w0:World}{F0:aK}{x:Value}{us:aO}(h:eO w0 F0 [.v x] us):us=[x]/\x.oneCell'=true:=by
 obtain⟨bs,h1,_⟩:=h;obtain⟨b1,b2,u,us',rfl,rfl,h2,h3⟩:=TN.cons.1 h1;obtain⟨rfl,_,h4⟩:=T1.v.1 h2;obtain⟨rfl,_⟩:=TN.nil.1 h3;exact⟨rfl,h4⟩
theorem dU:∀(u:U) (x:El u) {us:aO},eO cx.w0 cx.F0 (enc u x) us->ah cx β (aW u x) us
 | .int k,x,us,h=>by obtain⟨rfl,_⟩:=h.v1;exact ah.one (by unfold Den;rfl)
 | .bool,x,us,h=>by obtain⟨rfl,_⟩:=h.v1;exact ah.one (by unfold Den;rfl)
 | .str,x,us,h=>by obtain⟨rfl,h1⟩:=h.v1;exact ah.one (by unfold Den;exact⟨rfl,h1⟩)
 | .any,x,us,h=>by obtain⟨rfl,h1⟩:=h.v1;exact ah.one (by unfold Den;exact⟨rfl,h1⟩)
 | .pair a b,x,us,h=>by
  obtain⟨u1,u2,rfl,h1,h2⟩:=eO.append h;exact(dU a x.1 h1).app (dU b x.2 h2)
 | .sl e,xs,us,h=>by
  obtain⟨A,c,us',rfl,h1,_,h2⟩:=eO.sl h;have:=h2.end_;subst this;exact ah.one (by unfold Den;exact h1)
 | .tree e,x,us,h=>by
  rw[bX]at h;obtain⟨u1,u2,rfl,h1,h2⟩:=eO.append h;obtain⟨A,c,us',rfl,h3,_,h4⟩:=eO.sl h2;have:=h4.end_;subst this;exact(dU e x.val h1).app (ah.one (by unfold Den;exact h3))
def B0:SV->Prop
 | .int _ _=>True
 | .bool _=>True
 | .raw _=>True
 | .rsl _ _=>True
 |_=>False
theorem lK:∀(u:U) (x:El u),∀s∈aW u x,B0 s
 | .int _,x,s,h| .bool,x,s,h| .str,x,s,h| .any,x,s,h| .sl _,x,s,h=>by
  simp only[aW,qX]at h;subst h;trivial
 | .pair a b,x,s,h=>by
  simp only[aW,qT]at h;exact h.elim (lK a x.1 s) (lK b x.2 s)
 | .tree e,x,s,h=>by
  simp only[aW,qT,qX]at h;rcases h with h|h
  .exact lK e x.val s h
  .subst h;trivial
theorem ah.b0{β':Nat->Value}:∀{l:List SV} {us:aO},(∀s∈l,B0 s)->ah cx β l us->ah cx β' l us
 |[],us,_,h=>by unfold ah at h |-;exact h
 |s::l,us,hb,h=>by
  unfold ah at h |-;obtain⟨v,vs,e,h1,h2⟩:=h;refine⟨v,vs,e,?_,ah.b0 (fun s hs=>hb s (List.mem_cons_of_mem _ hs)) h2⟩;have:=hb s (List.mem_cons_self ..);cases s<;>first|exact this.elim|(unfold Den at h1 |-;exact h1)
theorem ah.kI{β':Nat->Value}{u:U}{xs:List (El u)}{us:aO}(h:ah cx β (List.flatMap (aW u) xs) us):ah cx β' (List.flatMap (aW u) xs) us:=h.b0 fun s hs=>by
 obtain⟨x,_,h1⟩:=List.mem_flatMap.1 hs;exact lK u x s h1
theorem dB.slice{w0:World}{F0:aK}{n:Nat}{ds:List D}{v:Value}(h:dB w0 F0 (.sl n ds) v):∃A c,v=.slice A n c:=by
 obtain⟨bs,h1,_⟩:=h;obtain⟨A,c,h2,_⟩:=h1.slice;exact⟨A,c,h2⟩
def bK(cx:Cx)(β:Nat->Value)(a:Act):SV->Value->Prop
 | .gd d b x,v=>(a.tmps[d]? =some (.bool b)->Den cx β x v)/\(a.tmps[d]? ≠some (.bool b)->v=undef)
 |s,v=>Den cx β s v
theorem bK.of{a:Act}{s:SV}{v:Value}(h:Den cx β s v):bK cx β a s v:=by
 cases s<;>first|exact h|(unfold Den at h;exact h.elim)
structure bW(cx:Cx)(β:Nat->Value)(n:Nat)(a:Act)(env:Ev):Prop where
 size:a.tmps.size=n
 defers:a.defers=[]
 get:∀t s,lk env t=some s->∃v,a.tmps[t]? =some v/\bK cx β a s v
def dz(a:Act)(g:Option (Nat×Bool)):Prop:=∀d b,g=some (d,b)->a.tmps[d]? =some (.bool b)
theorem aj{n:Nat}{a:Act}{env:Ev}(E:bW cx β n a env){g:Option (Nat×Bool)}(hg:dz a g){x:Operand}{s:SV}(h:evs env g x=some s):∃v,a.eval x=v/\Den cx β s v:=by
 cases x with
 |tmp t=>
  unfold evs at h;simp only at h;cases hl:lk env t with
  |none=>rw[hl]at h;simp at h
  |some u=>
   obtain⟨v,hv,hd⟩:=E.get t u hl
   have ha:a.eval (.tmp t)=v:=by
    show a.tmps.getD t undef=v;rw[Array.getD_eq_getD_getElem?,hv];rfl
   refine⟨v,ha,?_⟩;rw[hl]at h;cases u
   case gd d b x=>
    simp only at h;cases g with
    |none=>simp at h
    |some p=>
     obtain⟨d',b'⟩:=p;simp only at h;cases hb:(Nat.beq d d'&&(b==b'))with
     |false=>rw[hb]at h;simp at h
     |true=>
      rw[hb]at h;simp only[qG,Option.some.injEq]at h;subst h;rw[qD,beq_iff_eq]at hb;obtain⟨h1,rfl⟩:=hb;have:=ak h1;subst this;exact hd.1 (hg _ _ rfl)
   all_goals
    simp only[Option.some.injEq]at h;subst h;exact hd
 |const v=>
  refine⟨v,rfl,?_⟩;unfold evs at h;simp only at h;split at h<;>first|(simp only[Option.some.injEq]at h;subst h;unfold Den;first|rfl|exact⟨rfl,rfl⟩)|(simp at h)
 |func f=>
  refine⟨_,rfl,?_⟩;unfold evs at h;simp only[Option.some.injEq]at h;subst h;unfold Den;exact⟨[],rfl,by unfold ah;rfl⟩
 |global i=>simp[evs]at h
theorem vD{n:Nat}{a:Act}{env:Ev}(E:bW cx β n a env){g g':Option (Nat×Bool)}(hg:dz a g)(hg':dz a g'){x:Operand}{s:SV}(h:Aq env g g' x=some s):∃v,a.eval x=v/\Den cx β s v:=by
 unfold Aq at h;cases e:evs env g' x with
 |some v=>rw[e]at h;injection h with h;subst h;exact aj E hg' e
 |none=>rw[e]at h;exact aj E hg h
theorem Ar{n:Nat}{a:Act}{env:Ev}(E:bW cx β n a env){g:Option (Nat×Bool)}(hg:dz a g){c:Nat}{s:SV}(h:evs env g (.tmp c)=some s):∃v,a.tmps[c]? =some v/\Den cx β s v:=by
 obtain⟨v,hv,hd⟩:=aj E hg h;cases hl:lk env c with
 |none=>unfold evs at h;simp[hl]at h
 |some s'=>
  obtain⟨v0,hv0,_⟩:=E.get c s' hl;refine⟨v,?_,hd⟩
  have:a.eval (.tmp c)=v0:=by
   show a.tmps.getD c undef=_;rw[Array.getD_eq_getD_getElem?,hv0];rfl
  rw[<-hv,this];exact hv0
theorem lD{n:Nat}{a:Act}{env:Ev}(E:bW cx β n a env){g:Option (Nat×Bool)}(hg:dz a g):∀{xs:List Operand} {ss:List SV},oU env g xs=some ss->ah cx β ss (xs.map a.eval)
 |[],ss,h=>by
  unfold oU at h;simp only[Option.some.injEq]at h;subst h;unfold ah;rfl
 |x::xs,ss,h=>by
  unfold oU at h;cases h1:evs env g x with
  |none=>rw[h1]at h;simp at h
  |some s=>
   cases h2:oU env g xs with
   |none=>rw[h1,h2]at h;simp at h
   |some r=>
    rw[h1,h2]at h;simp only[Option.some.injEq]at h;subst h;obtain⟨v,h3,h4⟩:=aj E hg h1;unfold ah;exact⟨v,_,by rw[List.map_cons,h3],h4,lD E hg h2⟩
theorem wG{rs:List Tok}{g:Nat}{cs:List SV}(h:bU rs g=some cs):∃(i:Nat) (t:TypeId),rs[i]? =some (Tok.dn g t cs):=by
 induction rs with
 |nil=>simp[bU]at h
 |cons x rs ih=>
  cases x with
  |dn g' t cs'=>
   unfold bU at h;cases hb:Nat.beq g' g with
   |true=>
    rw[hb]at h;simp only[qG,Option.some.injEq]at h;subst h;have:=ak hb;subst this;exact⟨0,t,rfl⟩
   |false=>
    rw[hb]at h;obtain⟨i,t,h1⟩:=ih h;exact⟨i+1,t,by simpa using h1⟩
  |row g' t s u xs us=>
   unfold bU at h;obtain⟨i,t,h1⟩:=ih h;exact⟨i+1,t,by simpa using h1⟩
  |suf g' t s u xs=>
   unfold bU at h;obtain⟨i,t,h1⟩:=ih h;exact⟨i+1,t,by simpa using h1⟩
  |pmap g' kv=>
   unfold bU at h;obtain⟨i,t,h1⟩:=ih h;exact⟨i+1,t,by simpa using h1⟩
  |map g' u kv=>
   unfold bU at h;obtain⟨i,t,h1⟩:=ih h;exact⟨i+1,t,by simpa using h1⟩
  |nest g' u xs us=>
   unfold bU at h;obtain⟨i,t,h1⟩:=ih h;exact⟨i+1,t,by simpa using h1⟩
  |dat g' t s u xs=>
   unfold bU at h;obtain⟨i,t,h1⟩:=ih h;exact⟨i+1,t,by simpa using h1⟩
theorem oF{rs:List Tok}{g:Nat}{r:rA}(h:rowOf rs g=some r):∃(i:Nat),rs[i]? =some (Tok.row g r.t r.s r.u r.xs r.us)\/(r.us=[]/\rs[i]? =some (Tok.suf g r.t r.s r.u r.xs)):=by
 induction rs with
 |nil=>simp[rowOf]at h
 |cons x rs ih=>
  cases x with
  |row g' t s u xs us=>
   unfold rowOf at h;cases hb:Nat.beq g' g with
   |true=>
    rw[hb]at h;simp only[qG,Option.some.injEq]at h;subst h;have:=ak hb;subst this;exact⟨0,.inl rfl⟩
   |false=>
    rw[hb]at h;obtain⟨i,h1⟩:=ih h;exact⟨i+1,by simpa using h1⟩
  |suf g' t s u xs=>
   unfold rowOf at h;cases hb:Nat.beq g' g with
   |true=>
    rw[hb]at h;simp only[qG,Option.some.injEq]at h;subst h;have:=ak hb;subst this;exact⟨0,.inr ⟨rfl,rfl⟩⟩
   |false=>
    rw[hb]at h;obtain⟨i,h1⟩:=ih h;exact⟨i+1,by simpa using h1⟩
  |dn g' t cs=>
   unfold rowOf at h;obtain⟨i,h1⟩:=ih h;exact⟨i+1,by simpa using h1⟩
  |pmap g' kv=>
   unfold rowOf at h;obtain⟨i,h1⟩:=ih h;exact⟨i+1,by simpa using h1⟩
  |map g' u kv=>
   unfold rowOf at h;obtain⟨i,h1⟩:=ih h;exact⟨i+1,by simpa using h1⟩
  |nest g' u xs us=>
   unfold rowOf at h;obtain⟨i,h1⟩:=ih h;exact⟨i+1,by simpa using h1⟩
  |dat g' t s u xs=>
   unfold rowOf at h;obtain⟨i,h1⟩:=ih h;exact⟨i+1,by simpa using h1⟩
theorem oG:∀{rs:List Tok} {g:Nat} {r:rA},rowOf rs g=some r->isRow rs g=true->∃(i:Nat),rs[i]? =some (Tok.row g r.t r.s r.u r.xs r.us)
 |[],g,r,h,_=>by simp[rowOf]at h
 |x::rs,g,r,h,hr=>by
  have go:rowOf rs g=some r->isRow rs g=true->∃(i:Nat),(x::rs)[i]? =some (Tok.row g r.t r.s r.u r.xs r.us):=fun h hr=>by
   obtain⟨i,hi⟩:=oG h hr;exact⟨i+1,by simpa using hi⟩
  cases x with
  |row g' t s u xs us=>
   unfold rowOf at h;unfold isRow at hr;cases hb:Nat.beq g' g with
   |true=>
    rw[hb]at h;simp only[qG,Option.some.injEq]at h;subst h;have:=ak hb;subst this;exact⟨0,rfl⟩
   |false=>
    rw[hb]at h hr;exact go h hr
  |suf g' t s u xs=>
   unfold rowOf at h;unfold isRow at hr;cases hb:Nat.beq g' g with
   |true=>rw[hb]at hr;cases hr
   |false=>
    rw[hb]at h hr;exact go h hr
  |dn g' t cs=>unfold rowOf at h;unfold isRow at hr;exact go h hr
  |pmap g' kv=>unfold rowOf at h;unfold isRow at hr;exact go h hr
  |map g' u kv=>unfold rowOf at h;unfold isRow at hr;exact go h hr
  |nest g' u xs us=>unfold rowOf at h;unfold isRow at hr;exact go h hr
  |dat g' t s u xs=>unfold rowOf at h;unfold isRow at hr;exact go h hr
theorem jN{rs:List Tok}{g:Nat}{r:Aa}(h:bP rs g=some r):∃(i:Nat),rs[i]? =some (Tok.dat g r.t r.s r.u r.xs):=by
 induction rs with
 |nil=>simp[bP]at h
 |cons x rs ih=>
  cases x with
  |dat g' t s u xs=>
   unfold bP at h;cases hb:Nat.beq g' g with
   |true=>
    rw[hb]at h;simp only[qG,Option.some.injEq]at h;subst h;have:=ak hb;subst this;exact⟨0,rfl⟩
   |false=>
    rw[hb]at h;obtain⟨i,h1⟩:=ih h;exact⟨i+1,by simpa using h1⟩
  |row g' t s u xs us=>
   unfold bP at h;obtain⟨i,h1⟩:=ih h;exact⟨i+1,by simpa using h1⟩
  |dn g' t cs=>
   unfold bP at h;obtain⟨i,h1⟩:=ih h;exact⟨i+1,by simpa using h1⟩
  |suf g' t s u xs=>
   unfold bP at h;obtain⟨i,h1⟩:=ih h;exact⟨i+1,by simpa using h1⟩
  |pmap g' kv=>
   unfold bP at h;obtain⟨i,h1⟩:=ih h;exact⟨i+1,by simpa using h1⟩
  |map g' u kv=>
   unfold bP at h;obtain⟨i,h1⟩:=ih h;exact⟨i+1,by simpa using h1⟩
  |nest g' u xs us=>
   unfold bP at h;obtain⟨i,h1⟩:=ih h;exact⟨i+1,by simpa using h1⟩
theorem wN{rs:List Tok}{g:Nat}{r:BK}(h:mapOf rs g=some r):∃(i:Nat),rs[i]? =some (Tok.map g r.u r.kv):=by
 induction rs with
 |nil=>simp[mapOf]at h
 |cons x rs ih=>
  cases x with
  |map g' u kv=>
   unfold mapOf at h;cases hb:Nat.beq g' g with
   |true=>
    rw[hb]at h;simp only[qG,Option.some.injEq]at h;subst h;have:=ak hb;subst this;exact⟨0,rfl⟩
   |false=>
    rw[hb]at h;obtain⟨i,h1⟩:=ih h;exact⟨i+1,by simpa using h1⟩
  |dn g' t cs=>
   unfold mapOf at h;obtain⟨i,h1⟩:=ih h;exact⟨i+1,by simpa using h1⟩
  |suf g' t s u xs=>
   unfold mapOf at h;obtain⟨i,h1⟩:=ih h;exact⟨i+1,by simpa using h1⟩
  |pmap g' kv=>
   unfold mapOf at h;obtain⟨i,h1⟩:=ih h;exact⟨i+1,by simpa using h1⟩
  |nest g' u xs us=>
   unfold mapOf at h;obtain⟨i,h1⟩:=ih h;exact⟨i+1,by simpa using h1⟩
  |dat g' t s u xs=>
   unfold mapOf at h;obtain⟨i,h1⟩:=ih h;exact⟨i+1,by simpa using h1⟩
  |row g' t s u xs us=>
   unfold mapOf at h;obtain⟨i,h1⟩:=ih h;exact⟨i+1,by simpa using h1⟩
theorem uK{rs:List Tok}{g:Nat}{r:List ((Int×Int)×Bool)}(h:bR rs g=some r):∃(i:Nat),rs[i]? =some (Tok.pmap g r):=by
 induction rs with
 |nil=>simp[bR]at h
 |cons x rs ih=>
  cases x with
  |pmap g' kv=>
   unfold bR at h;cases hb:Nat.beq g' g with
   |true=>
    rw[hb]at h;simp only[qG,Option.some.injEq]at h;subst h;have:=ak hb;subst this;exact⟨0,rfl⟩
   |false=>
    rw[hb]at h;obtain⟨i,h1⟩:=ih h;exact⟨i+1,by simpa using h1⟩
  |suf g' t s u xs=>
   unfold bR at h;obtain⟨i,h1⟩:=ih h;exact⟨i+1,by simpa using h1⟩
  |dn g' t cs=>
   unfold bR at h;obtain⟨i,h1⟩:=ih h;exact⟨i+1,by simpa using h1⟩
  |map g' u kv=>
   unfold bR at h;obtain⟨i,h1⟩:=ih h;exact⟨i+1,by simpa using h1⟩
  |nest g' u xs us=>
   unfold bR at h;obtain⟨i,h1⟩:=ih h;exact⟨i+1,by simpa using h1⟩
  |dat g' t s u xs=>
   unfold bR at h;obtain⟨i,h1⟩:=ih h;exact⟨i+1,by simpa using h1⟩
  |row g' t s u xs us=>
   unfold bR at h;obtain⟨i,h1⟩:=ih h;exact⟨i+1,by simpa using h1⟩
theorem aC(u:U)(xs:List (El u)):(xs.flatMap (enc u)).length=xs.length*u.size:=jm (enc u) u.size (aN u) xs
theorem pq:∀{u:U} {x:El u},bf u=true->∀d∈enc u x,∃y,d=D.v y
 | .int _,x,_,d,hd| .bool,x,_,d,hd| .str,x,_,d,hd| .any,x,_,d,hd=>⟨_,by simpa[enc]using hd⟩
 | .pair a b,x,h,d,hd=>by
  simp only[bf,qD]at h;rcases qT.1 hd with hd|hd
  .exact pq h.1 d hd
  .exact pq h.2 d hd
 | .sl _,x,h,d,hd=>by cases h
 | .tree _,x,h,d,hd=>by cases h
theorem TN.kI{w:World}:∀{ds:List D} {bs:aK} {us:aO},TN w ds bs us->(∀d∈ds,∃y,d=D.v y)->bs=[]
 |[],bs,us,h,_=>by unfold TN at h;exact h.2
 |d::ds,bs,us,h,hv=>by
  unfold TN at h;obtain⟨b1,b2,u,us',rfl,rfl,h1,h2⟩:=h;obtain⟨y,rfl⟩:=hv d (by simp);unfold T1 at h1;rw[h1.2.1,TN.kI h2 fun d hd=>hv d (by simp[hd])];rfl
theorem Av{u:U}{xs:List (El u)}(h:bf u=true):∀d∈List.flatMap (enc u) xs,∃y,d=D.v y:=fun d hd=>by
 obtain⟨x,_,hx⟩:=List.mem_flatMap.1 hd;exact pq h d hx
theorem xH.Co{w:World}{F:aK}{v:Value}{t s:Nat}{u:U}{xs:List (El u)}{us:aO}(hf:bf u=true)(h:(kD v t s (List.length (α:=El u) xs) (List.flatMap (enc u) xs) us).p w F):(xH v t s (List.length (α:=El u) xs) (List.flatMap (enc u) xs)).p w F:=by
 obtain⟨bs,raw,rfl,hg,_⟩:=h;have hb:bs=[]:=hg.tn.kI (Av hf);subst hb;rw[qS];rcases hg.row.2 with⟨e1,e2⟩|⟨b,cap,cur,e1,e2,e3,e4,e5,e6,e7⟩
 .have hx:xs=[]:=List.eq_nil_of_length_eq_zero e2;subst hx;subst e1;exact .inl ⟨rfl,rfl,rfl,rfl⟩
 .subst e1;exact .inr ⟨b,0,cap,cur,raw,rfl,rfl,e3,e4,e5,by omega,by rw[List.drop_zero,e7],hg.row.1,hg.tn⟩
theorem xH.t1{w:World}{F:aK}{v:Value}{t s n:Nat}{ds:List D}(h:(xH v t s n ds).p w F)(hs:ds.length=n*s):∃A c bs,v=.slice A n c/\T1 w (.sl n ds) bs v/\(0<n->∃b z,A=some ⟨b,z,none⟩)/\(∀b∈bs,b∈F):=by
 rcases h with⟨rfl,rfl,rfl,rfl⟩|⟨g,off,c,cur,us,rfl,rfl,h3,h4,h5,h6,h7,h8,h9⟩
 .exact⟨none,0,[],rfl,T1.empty none,fun h=>by omega,by simp⟩
 .rcases Nat.eq_zero_or_pos n with rfl|hn
  .have hd:ds=[]:=List.eq_nil_of_length_eq_zero (by simpa using hs);subst hd;refine⟨some ⟨g,off,none⟩,c,[],rfl,?_,fun h=>by omega,by simp⟩;unfold T1;exact⟨_,_,rfl,h4,h5,.inl ⟨rfl,rfl,rfl⟩⟩
  .refine⟨some ⟨g,off,none⟩,c,[g],rfl,?_,fun _=>⟨g,off,rfl⟩,by simp⟩;unfold T1;refine⟨_,_,rfl,h4,h5,.inr ⟨hn,g,off,us,[],rfl,rfl,(Array.getElem?_eq_some_iff.1 h3).1,fun j y hy=> ?_,h9⟩⟩;rw[cell_of_row w g (off+j) cur t (0,0) h3,<-Array.getElem?_toList];rw[h7,List.getElem?_take]at hy;split at hy
   .rw[List.getElem?_drop]at hy;exact hy
   .cases hy
theorem kN{w:World}{rs:List Tok}{fr:List aM}(H:Inv cx.w0 cx.F0 w (rs.map (Tok.res cx β)++fr)){g:Nat}{r:rA}(h:rowOf rs g=some r):
  r.u.size=r.s/\∃A c bs,β g=.slice A (List.length (α:=El r.u) r.xs) c/\T1 w (.sl (List.length (α:=El r.u) r.xs) (List.flatMap (enc r.u) r.xs)) bs (β g)/\(0<List.length (α:=El r.u) r.xs->∃b z,A=some ⟨b,z,none⟩):=by
 obtain⟨i,hi|⟨hus,hi⟩⟩:=oF h
 .obtain⟨F,h1,h2⟩:=H.mem i (r:=Tok.res cx β (.row g r.t r.s r.u r.xs r.us)) (by
   rw[qM (by simpa using(qE.1 hi).1),qY,hi];rfl)
  refine⟨h1,?_⟩;obtain⟨bs,us,_,hg,_⟩:=h2;obtain⟨A,c,bs',e,ht,_⟩:=hg.res (by rw[aC,h1]);refine⟨A,c,bs',e,e▸ht,fun hp=> ?_⟩;rcases hg.row.2 with⟨e1,e2⟩|⟨b,cap,cur,e1,_⟩
  .omega
  .rw[e]at e1;injection e1 with e1
   exact⟨b,0,e1⟩
 .obtain⟨F,h1,_,h2⟩:=H.mem i (r:=Tok.res cx β (.suf g r.t r.s r.u r.xs)) (by
   rw[qM (by simpa using(qE.1 hi).1),qY,hi];rfl)
  obtain⟨A,c,bs,e,ht,hz,_⟩:=xH.t1 h2 (by rw[aC,h1]);exact⟨h1,A,c,bs,e,ht,hz⟩
theorem xX{w:World}{rs:List Tok}{fr:List aM}(H:Inv cx.w0 cx.F0 w (rs.map (Tok.res cx β)++fr)){g:Nat}{r:Aa}(h:bP rs g=some r):
  r.u.size=r.s/\∃A c,β g=.slice A (List.length (α:=El r.u) r.xs) c:=by
 obtain⟨i,hi⟩:=jN h
 obtain⟨F,h1,us,h2,h3,h4⟩:=H.mem i (r:=Tok.res cx β (.dat g r.t r.s r.u r.xs)) (by
  rw[qM (by simpa using(qE.1 hi).1),qY,hi];rfl)
 refine⟨h1,?_⟩;obtain⟨bs,us',_,hg,_⟩:=h4;rcases hg.row.2 with⟨e1,e2⟩|⟨b,cap,cur,e1,_⟩
 .exact⟨_,_,by rw[e1,e2]⟩
 .exact⟨_,_,e1⟩
theorem zA{w:World}{rs:List Tok}{fr:List aM}(H:Inv cx.w0 cx.F0 w (rs.map (Tok.res cx β)++fr)){g:Nat}{r:rA}(h:rowOf rs g=some r)(hp:0<List.length (α:=El r.u) r.xs):
  ∃b z c,β g=.slice (some ⟨b,z,none⟩) (List.length (α:=El r.u) r.xs) c/\List.length (α:=El r.u) r.xs<=c:=by
 obtain⟨_,A,c,bs,e,ht,hz⟩:=kN H h;obtain⟨b,z,rfl⟩:=hz hp;rw[e]at ht;unfold T1 at ht;obtain⟨A',c',e',hle,_⟩:=ht;injection e' with _ _ e'
 exact⟨b,z,c,e,by omega⟩
theorem zC{w:World}{rs:List Tok}{fr:List aM}(H:Inv cx.w0 cx.F0 w (rs.map (Tok.res cx β)++fr)){g:Nat}{r:rA}(h:rowOf rs g=some r){b z m c:Nat}(hb:β g=.slice (some ⟨b,z,none⟩) m c){j:Nat}{v:Value}(hv:r.us[j]? =some v):w.cell? ⟨b,z+j,none⟩=some v:=by
 obtain⟨i,hi|⟨hus,hi⟩⟩:=oF h
 .obtain⟨F,h1,h2⟩:=H.mem i (r:=Tok.res cx β (.row g r.t r.s r.u r.xs r.us)) (by
   rw[qM (by simpa using(qE.1 hi).1),qY,hi];rfl)
  obtain⟨bs,us,_,hg,q,hq⟩:=h2
  have hu:us[j]? =some v:=by
   rw[<-hq,qM (qE.1 hv).1];exact hv
  rcases hg.row.2 with⟨e1,e2⟩|⟨b',cap,cur,e1,_,e2,_,_,_,e3⟩
  .rw[hb]at e1;cases e1
  .rw[hb]at e1;injection e1 with e1
   injection e1 with e1
   injection e1 with e1 e4
   subst e1 e4;rw[Nat.zero_add,cell_of_row w b j cur r.t (0,0) e2,<-Array.getElem?_toList];rw[<-e3,List.getElem?_take]at hu;split at hu
   .exact hu
   .cases hu
 .rw[hus]at hv;cases hv
theorem oO{w:World}{rs:List Tok}{fr:List aM}(H:Inv cx.w0 cx.F0 w (rs.map (Tok.res cx β)++fr)){g:Nat}{cs:List SV}(h:bU rs g=some cs):
  ∃b us t,β g=.pointer (some ⟨b,0,none⟩)/\ah cx β cs us/\us.all (·.oneCell')=true/\w.heap[b]? =some (.cells us.toArray t (0,0)):=by
 obtain⟨i,t,hi⟩:=wG h
 obtain⟨F,b,us,h1,h2,h3,h4⟩:=H.mem i (r:=Tok.res cx β (.dn g t cs)) (by
  rw[qM (by simpa using(qE.1 hi).1),qY,hi];rfl)
 exact⟨b,us,t,h1,h2,h3,h4.2⟩
theorem jW{α:Type u}:∀{l:List α} {i:Nat},nth l i=l[i]?
 |[],i=>by simp[nth]
 |x::l,0=>by simp[nth]
 |x::l,i+1=>by simp[nth,jW (l:=l)]
theorem d9{α:Type u}:∀{n:Nat} {l:List α},dG n l=l.drop n
 |0,l=>by cases l<;>simp[dG]
 |n+1,[]=>by simp[dG]
 |n+1,x::l=>by simp[dG,d9 (n:=n)]
theorem gZ{α:Type u}:∀{n:Nat} {l r:List α},takeN n l=some r->l.take n=r/\r.length=n
 |0,l,r,h=>by cases l<;>simp[takeN]at h<;>subst h<;>simp
 |n+1,[],r,h=>by simp[takeN]at h
 |n+1,x::l,r,h=>by
  unfold takeN at h;cases h1:takeN n l with
  |none=>rw[h1]at h;simp at h
  |some q=>
   rw[h1]at h;simp only[Option.some.injEq]at h;subst h;obtain⟨h2,h3⟩:=gZ h1;simp[h2,h3]
theorem ah.drop:∀{l:List SV} {us:aO} (k:Nat),ah cx β l us->ah cx β (l.drop k) (us.drop k)
 |l,us,0,h=>by simpa using h
 |[],us,k+1,h=>by unfold ah at h;subst h;simp;unfold ah;rfl
 |s::l,us,k+1,h=>by
  unfold ah at h;obtain⟨v,vs',rfl,h1,h2⟩:=h;simpa using h2.drop k
theorem ah.take:∀{l:List SV} {us:aO} (k:Nat),ah cx β l us->ah cx β (l.take k) (us.take k)
 |l,us,0,h=>by simp;unfold ah;rfl
 |[],us,k+1,h=>by unfold ah at h;subst h;simp;unfold ah;rfl
 |s::l,us,k+1,h=>by
  unfold ah at h;obtain⟨v,vs',rfl,h1,h2⟩:=h;simp only[List.take_succ_cons];unfold ah;exact⟨v,_,rfl,h1,h2.take k⟩
variable {P:Program}{ti:TI}
theorem jT{α:Type u}:∀{l:List (Nat×α)} {t:Nat} {x:α},lk l t=some x->(t,x)∈l
 |[],t,x,h=>by simp[lk]at h
 |(k,v)::l,t,x,h=>by
  unfold lk at h;cases hb:Nat.beq t k with
  |true=>
   rw[hb]at h;simp only[qG,Option.some.injEq]at h;have:=ak hb;subst this h;simp
  |false=>
   rw[hb]at h;exact List.mem_cons_of_mem _ (jT h)
theorem gD(h:bE P ti=true){t:Nat}{x:gI}(hl:lk ti t=some x):eX P t x=true:=by
 unfold bE at h;rw[List.all_eq_true]at h;exact h _ (jT hl)
theorem gF(h:bE P ti=true){t m n:Nat}{u:U}{zs:List SV}(hl:lk ti t=some (.st m n u zs)):
  eZ P t=some true/\(P.info? t).map (·.size)=some n/\u.size=n/\∀i,i<m->pE P t i=some (dJ i m u):=by
 have:=gD h hl;unfold eX at this;rw[qD]at this;have:=this.2;simp only[qD,beq_iff_eq,List.all_eq_true,List.mem_range]at this;exact⟨this.1.1.1.1,this.1.1.1.2,ak this.1.1.2,this.1.2⟩
theorem D9(h:bE P ti=true){t m n:Nat}{u:U}{zs:List SV}(hl:lk ti t=some (.st m n u zs)):placesOf P t=some ((List.range m).map fun i=>(dJ i m u,uh i m u)):=by
 have:=gD h hl;unfold eX at this;rw[qD]at this;have:=this.2;simp only[qD,beq_iff_eq]at this;exact this.2
theorem bV(h:bE P ti=true){t e s:Nat}{u:U}(hl:lk ti t=some (.sl e s u)):eZ P t=some false/\bg P t=some (e,s)/\u.size=s:=by
 have:=gD h hl;unfold eX at this;rw[qD]at this;have:=this.2;simp only[qD,beq_iff_eq]at this;exact⟨this.1.1.1.1,this.1.1.1.2,ak this.1.1.2⟩
theorem dR(h:bE P ti=true){t e s:Nat}{u:U}(hl:lk ti t=some (.sl e s u)):fH P t e s:=by
 have:=gD h hl;unfold eX at this;rw[qD]at this;have:=this.2;simp only[qD,beq_iff_eq]at this;refine fH.of ?_ this.2 (by simpa using this.1.2);have h2:=(bV h hl).2.1;unfold bg at h2;split at h2
 .rename_i e' hu;cases hi:P.info? e' with
  |none=>rw[hi]at h2;simp at h2
  |some i=>
   rw[hi]at h2;simp at h2;rw[hu,h2.1]
 .cases h2
theorem nu(h:bE P ti=true){t:Nat}{x:gI}(hl:lk ti t=some x)(hx:∀m n u z,x≠.st m n u z):eZ P t=some false:=by
 have:=gD h hl;unfold eX at this;rw[qD]at this;have this:=this.2;cases x with
 |sc z=>simp only[qD,beq_iff_eq]at this;exact this.1
 |ptr z=>simpa using this
 |bool=>simp only[qD,beq_iff_eq]at this;exact this.1
 |sl e s u=>exact(bV h hl).1
 |mp u=>simp only[qD,beq_iff_eq]at this;exact this.1.1
 |mp2=>rw[qD,beq_iff_eq]at this;exact this.1
 |st m n u z=>exact absurd rfl (hx m n u z)
theorem zQ{u:U}(h:u1 u=true)(x:El u):∃s:SV,(match aW u x with|[v]=>some v|[v,v2]=>some (.agg [v,v2])|_=>none)=some s/\Den cx β s (jI u x):=by
 cases u with
 |int k=>exact⟨_,rfl,by unfold Den jI;rfl⟩
 |bool=>exact⟨_,rfl,by unfold Den jI;rfl⟩
 |pair a b=>
  cases a<;>cases b<;>simp only[u1]at h<;>first|cases h|skip
  refine⟨_,rfl,?_⟩;unfold Den jI;exact⟨[_,_],rfl,by unfold ah;exact⟨_,_,rfl,by unfold Den;rfl,ah.one (by unfold Den;rfl)⟩⟩
 |str=>cases h
 |any=>cases h
 |sl e=>cases h
 |tree e=>cases h
theorem tL{a b:Value}(h:wE a b=true):a=b:=by
 unfold wE at h;split at h
 .rw[qD,beq_iff_eq,beq_iff_eq]at h;rw[h.1,h.2]
 .rw[beq_iff_eq]at h;rw[h]
 .rw[beq_iff_eq]at h;rename_i a b;cases a;cases b;simp only at h;rw[h]
 all_goals first|rfl|cases h
theorem dX:∀{a b:aO},eG a b=true->a=b
 |[],[],_=>rfl
 |a::l,b::m,h=>by
  unfold eG at h;rw[qD]at h;rw[tL h.1,dX h.2]
 |[],_::_,h=>by cases h
 |_::_,[],h=>by cases h
theorem xA{a b:Value}(h:uZ a b=true):a=b:=by
 unfold uZ at h;split at h
 .rename_i a b;have:=dX h;cases a;cases b;simp only at this;rw[this]
 .exact tL h
theorem uV(h:bE P ti=true){t:Nat}(hl:lk ti t=some .mp2):∃k e,P.underlying t=some (.map k e)/\fu P k 2=true/\∃i,P.info? e=some i/\i.zero=some (.bool false):=by
 have:=gD h hl;unfold eX at this;rw[qD]at this;have:=this.2;rw[qD]at this;have h2:=this.2;split at h2
 .rename_i k e hu;rw[qD]at h2;refine⟨k,e,hu,h2.1,?_⟩;have h3:=h2.2;split at h3
  .rename_i b hz;cases hi:P.info? e with
   |none=>rw[hi]at hz;cases hz
   |some i=>
    rw[hi]at hz;cases b with
    |false=>exact⟨i,rfl,hz⟩
    |true=>cases h3
  .cases h3
 .cases h2
theorem tK(h:bE P ti=true){t:Nat}{u:U}(hl:lk ti t=some (.mp u)):u1 u=true/\∃k e,P.underlying t=some (.map k e)/\P.underlying k=some (.int .i64)/\∃i,P.info? e=some i/\i.zero=some (jI u (dflt u)):=by
 have:=gD h hl;unfold eX at this;rw[qD]at this;have:=this.2;simp only[qD,beq_iff_eq]at this;refine⟨this.1.2,?_⟩;have h2:=this.2;split at h2
 .rename_i k e hu;simp only[qD]at h2;refine⟨k,e,hu,?_,?_⟩
  .have h3:=h2.1;split at h3
   .assumption
   .cases h3
  .have h3:=h2.2;split at h3
   .rename_i z hz;cases hi:P.info? e with
    |none=>rw[hi]at hz;simp at hz
    |some i=>
     rw[hi]at hz;simp only[Option.bind_some]at hz;exact⟨i,rfl,by rw[hz,xA h3]⟩
   .cases h3
 .cases h2
theorem vw{s:SV}(h:kg s=true):Den cx β s (iO s)/\(iO s).oneCell'=true:=by
 unfold kg at h;split at h
 .unfold Den iO;exact⟨rfl,rfl⟩
 .unfold Den iO;exact⟨rfl,rfl⟩
 .unfold Den iO;exact⟨⟨rfl,h⟩,h⟩
 .cases h
theorem lV:∀{l:List SV},l.all kg=true->ah cx β l (l.map iO)/\(l.map iO).all (·.oneCell')=true
 |[],_=>by unfold ah;exact⟨rfl,rfl⟩
 |s::l,h=>by
  rw[List.all_cons,qD]at h;obtain⟨h1,h2⟩:=vw (cx:=cx) (β:=β) h.1;obtain⟨h3,h4⟩:=lV h.2;unfold ah;exact⟨⟨_,_,rfl,h1,h3⟩,by rw[List.map_cons,List.all_cons,h2,h4];rfl⟩
theorem qx(h:bE P ti=true){t:Nat}{k:IntKind}{i:Int}(hl:lk ti t=some (.sc (.int k i))):P.underlying t=some (.int k):=by
 have:=gD h hl;unfold eX at this;rw[qD]at this;have:=this.2;simp only[qD,beq_iff_eq]at this;have h2:=this.2;split at h2
 .rename_i k' hu;rw[hu,eq_of_beq h2]
 .cases h2
theorem uW(h:bE P ti=true){t:Nat}{x:ByteArray}(hl:lk ti t=some (.sc (.raw (.string x)))):P.underlying t=some .string:=by
 have:=gD h hl;unfold eX at this;rw[qD]at this;have:=this.2;simp only[qD,beq_iff_eq]at this;have h2:=this.2;split at h2
 .assumption
 .cases h2
theorem CJ(h:bE P ti=true){t:Nat}{z:SV}(hl:lk ti t=some (.sc z)):(P.underlying t).isSome=true:=by
 have:=nu h hl (by intro m n u z h;cases h);unfold eZ at this;cases hu:P.underlying t with
 |none=>rw[hu]at this;cases this
 |some x=>rfl
theorem iG(h:bE P ti=true){t:Nat}{x:gI}(hl:lk ti t=some x):(eH x).all kg=true/\(P.info? t).map (·.size)=some (eH x).length/\zeroOf P t=some ((eH x).map iO):=by
 have:=gD h hl;unfold eX at this;rw[qD,qD,qD,beq_iff_eq]at this;refine⟨this.1.1.1,this.1.2,?_⟩;have h2:=this.1.1.2;split at h2
 .rename_i zs hz;rw[hz,dX h2]
 .cases h2
theorem wM{i m:Nat}{e:U}{x:Tree (El e)}:jo i (m+2) (.tree e) x=(bif Nat.beq i (m+1)then some ⟨.sl (.tree e),Tree.kids x⟩else jo i (m+1) e (Tree.val x)):=by
 cases i<;>rfl
theorem nX{i m:Nat}{e:U}:dJ i (m+2) (.tree e)=(bif Nat.beq i (m+1)then e.size else dJ i (m+1) e):=by
 cases i<;>rfl
theorem pF:∀(i m:Nat) (u:U) (x:El u) {u':U} {x':El u'},jo i m u x=some ⟨u',x'⟩->i<m/\∃d1 d2,enc u x=d1++(enc u' x'++d2)/\d1.length=dJ i m u
 |0,1,u,x,u',x',h=>by
  unfold jo at h;injection h with h
  injection h with h1 h2
  subst h1;cases h2;exact⟨by omega,[],[],by simp,by unfold dJ;rfl⟩
 |0,m+2,.pair a b,x,u',x',h=>by
  unfold jo at h;injection h with h
  injection h with h1 h2
  subst h1;cases h2;exact⟨by omega,[],enc b x.2,by simp[enc],by unfold dJ;rfl⟩
 |i+1,m+2,.pair a b,x,u',x',h=>by
  unfold jo at h;obtain⟨h1,d1,d2,h2,h3⟩:=pF i (m+1) b x.2 h;refine⟨by omega,enc a x.1++d1,d2,by simp[enc,h2],?_⟩;unfold dJ;simp[aN,h3]
 |0,0,u,x,u',x',h=>by unfold jo at h;simp at h
 |i+1,0,u,x,u',x',h=>by unfold jo at h;simp at h
 |i+1,1,u,x,u',x',h=>by unfold jo at h;simp at h
 |i,m+2,.tree e,x,u',x',h=>by
  rw[wM]at h;cases hb:Nat.beq i (m+1)with
  |true=>
   rw[hb]at h;simp only[qG,Option.some.injEq]at h;injection h with h1 h2
   subst h1;cases h2;have:=ak hb;subst this;refine⟨by omega,enc e x.val,[],by rw[bX,qS];rfl,?_⟩;rw[nX,hb,aN];rfl
  |false=>
   rw[hb]at h;obtain⟨h1,d1,d2,h2,h3⟩:=pF i (m+1) e x.val h;refine⟨by omega,d1,d2++[.sl x.kids.length (List.flatMap (enc (.tree e)) x.kids)],by rw[bX,h2];simp,?_⟩;rw[nX,hb];exact h3
 |0,m+2,.int _,x,u',x',h|0,m+2,.bool,x,u',x',h|0,m+2,.str,x,u',x',h|0,m+2,.any,x,u',x',h|0,m+2,.sl _,x,u',x',h=>by simp[jo]at h
 |i+1,m+2,.int _,x,u',x',h|i+1,m+2,.bool,x,u',x',h|i+1,m+2,.str,x,u',x',h|i+1,m+2,.any,x,u',x',h|i+1,m+2,.sl _,x,u',x',h=>by simp[jo]at h
theorem vH{α:Type}{γ:Type}{f:α->List γ}{n:Nat}(hn:∀x,(f x).length=n):∀(l:List α) (i:Nat) (h:i<l.length),((l.flatMap f).drop (i*n)).take n=f l[i]
 |[],i,h=>by simp at h
 |x::l,0,h=>by
  simp only[qU,Nat.zero_mul,List.drop_zero,List.getElem_cons_zero];rw[List.take_append_of_le_length (by rw[hn];exact Nat.le_refl _),qN (by rw[hn];exact Nat.le_refl _)]
 |x::l,i+1,h=>by
  simp only[qU,List.getElem_cons_succ];rw[List.drop_append,List.drop_eq_nil_of_le (by rw[hn,Nat.add_mul];omega),List.nil_append,hn,show(i+1)*n-n=i*n by rw[Nat.add_mul];omega];exact vH hn l i (by simpa using h)
theorem rP{w:World}{rs:List Tok}{fr:List aM}(H:Inv cx.w0 cx.F0 w (rs.map (Tok.res cx β)++fr)){g:Nat}{r:Aa}(h:bP rs g=some r){i:Int}(hi:i.toNat<List.length (α:=El r.u) r.xs):
  r.u.size=r.s/\∃b c us,β g=.slice (some ⟨b,0,none⟩) (List.length (α:=El r.u) r.xs) c/\Go.Tr.aT w b (i.toNat*r.s) us/\ah cx β (aW r.u (elt (dflt r.u) r.xs i)) us:=by
 obtain⟨i0,hi0⟩:=jN h
 obtain⟨F,h1,us0,h2,h3,h4⟩:=H.mem i0 (r:=Tok.res cx β (.dat g r.t r.s r.u r.xs)) (by
  rw[qM (by simpa using(qE.1 hi0).1),qY,hi0];rfl)
 refine⟨h1,?_⟩;obtain⟨bs,us',_,hg,_⟩:=h4
 have hus:us'=us0:=by
  have:∀{us us':List Value} {bs:List Nat},TN w (us.map D.v) bs us'->us'=us:=by
   intro us
   induction us with
   |nil=>intro us' bs h;exact(TN.nil.1 h).1
   |cons u us ih=>
    intro us' bs h;rw[List.map_cons]at h;obtain⟨b1,b2,v,us2,rfl,rfl,k2,k3⟩:=TN.cons.1 h;obtain⟨rfl,_,_⟩:=T1.v.1 k2;rw[ih k3]
  exact this hg.tn
 subst hus;rcases hg.row.2 with⟨e1,e2⟩|⟨b,cap,cur,e1,_,e2,_,_,_,e3⟩
 .omega
 .refine⟨b,cap,(us'.drop (i.toNat*r.s)).take r.s,e1,fun j v hv=> ?_,?_⟩
  .rw[List.getElem?_take]at hv;split at hv
   .rw[List.getElem?_drop]at hv;rw[cell_of_row w b _ cur r.t (0,0) e2,<-Array.getElem?_toList];rw[<-e3,List.getElem?_take]at hv;split at hv
    .exact hv
    .cases hv
   .cases hv
  .have h5:=(h2.drop (i.toNat*r.s)).take r.s;rw[vH (fun x=>(bS r.u x).trans h1) _ _ hi]at h5;have:r.xs[i.toNat]=elt (dflt r.u) r.xs i:=by unfold elt;rw[qC,qB hi];rfl
   rw[this]at h5;exact h5
theorem foldl_set:∀(us:aO) (k off:Nat) (cells:Array Value),off+k+us.length<=cells.size->((us.zipIdx k).foldl (fun(cs:Array Value) (x:Value×Nat)=>cs.setIfInBounds (off+x.2) x.1) cells).toList=cells.toList.take (off+k)++us++cells.toList.drop (off+k+us.length)
 |[],k,off,cells,h=>by simp
 |v::us,k,off,cells,h=>by
  simp only[qI]at h;rw[List.zipIdx_cons,List.foldl_cons,foldl_set us (k+1) off _ (by simp;omega)];apply List.ext_getElem?;intro j;simp only[Array.toList_setIfInBounds,List.getElem?_append,List.getElem?_take,qA,List.length_take,List.length_set,qI,List.getElem?_set,List.getElem?_drop,Array.length_toList]
  grind
end
end Go.Tr
namespace Go.Tr
open Go Go.RowKit
variable {P:Program}{w:World}
theorem oQ {t n : Nat} (h : fu P t n = true) : P.underlying t = some (.struct (P.fieldsOf t)) /\ P.stoodInHeld t = false /\ (∀ f ∈ (P.fieldsOf t).toList, f.name ≠ "_" /\ P.underlying f.type = some (.int .i64)) /\ (P.fieldsOf t).toList.map (·.offset) = List.range' 0 n /\ (P.fieldsOf t).toList.length = n := by
 unfold fu at h;simp only[qD,Bool.not_eq_true',beq_iff_eq]at h;obtain⟨h1,h2,h3,h4,h5,h6⟩:=h;refine⟨?_,h1,fun f hf=> ?_,h5,h6⟩
 .split at h3
  .rename_i fs hf;rw[hf];unfold Program.fieldsOf;rw[hf]
  .cases h3
 .have:=List.all_eq_true.1 h4 f hf;simp only[qD,bne_iff_ne,ne_eq]at this;refine⟨this.1,?_⟩;have:=this.2;split at this
  .assumption
  .cases this
theorem Ap{k:Nat}(h:fu P k 2=true)(a b:Int×Int):(Op.equal k (bN a) (bN b)).run P w=.ok (a.1==b.1&&a.2==b.2) w:=by
 obtain⟨hu,h1,h2,h5,h6⟩:=oQ h
 have hr:=eU (P:=P) w 9998 k _ hu h1 rfl (fun q hq=>by
  simp only[List.map_map,List.mem_map,Function.comp]at hq;obtain⟨f,hf,rfl⟩:=hq
  exact(h2 f hf).2) [a.1,a.2] [b.1,b.2] (by
   simp only[qD,beq_iff_eq,List.map_map,qV,h6];refine⟨by rw[<-h5];rfl,?_⟩;rw[List.all_map];refine List.all_eq_true.2 fun f hf=> ?_
   simpa using(h2 f hf).1) (by simp[h6])
 show(Op.equalIn 10000 k (bN a) (bN b)).run P w=_;rw[show(a.1==b.1&&a.2==b.2)=bq [a.1,a.2] [b.1,b.2] by simp[bq]];exact hr
theorem fI{k:Nat}(h:fu P k 2=true)(a:Int×Int)(em:Bool):(Instr.checkKey em 10000 k (bN a)).run P w=.ok () w:=by
 obtain⟨hu,h1,h2,h5,h6⟩:=oQ h;unfold Instr.checkKey;simp only[Sem.run_bind,run_underlying hu,Result.andThen_ok,bN];rw[<-Array.forIn_toList]
 have key : ∀ (fs : List Field) (pre : Nat) (xs : List Int) (px : List Value), (∀ f ∈ fs, f.name ≠ "_" /\ P.underlying f.type = some (.int .i64)) -> fs.map (·.offset) = List.range' pre fs.length -> xs.length = fs.length -> px.length = pre ->
   (forIn fs PUnit.unit fun f (_:PUnit)=>(do
    if f.name ≠ "_" then Instr.checkKey em 9999 f.type (<- part f.type (px ++ xs.map (Value.int .i64)).toArray f.offset)
    pure (ForInStep.yield PUnit.unit):Sem (ForInStep PUnit))).run P w=.ok PUnit.unit w:=by
  intro fs
  induction fs with
  |nil=>intro pre xs px _ _ _ _;simp
  |cons f fs ih=>
   intro pre xs px hf ho hl hp
   match xs,hl with
   |x::xs,hl=>
    simp only[List.map_cons,qI,List.range'_succ,List.cons.injEq]at ho;have hut:=(hf f (by simp)).2
    have hg:(px++(x::xs).map (Value.int .i64)).toArray[f.offset]? =some (.int .i64 x):=by
     rw[ho.1];simp[<-hp]
    have hpart:(part f.type (px++(x::xs).map (Value.int .i64)).toArray f.offset).run P w=.ok (.int .i64 x) w:=by
     simp only[part,isAgg,Sem.run_bind,run_underlying hut,Result.andThen_ok,hg];simp
    have hck:(Instr.checkKey em 9999 f.type (.int .i64 x)).run P w=.ok () w:=by
     unfold Instr.checkKey;simp[run_underlying hut]
    have h3:=ih (pre+1) xs (px++[.int .i64 x]) (fun g hg=>hf g (by simp[hg])) (by simpa using ho.2) (by simpa using hl) (by simp[hp]);simp only[qF,List.singleton_append]at h3;simp only[List.forIn_cons,Sem.run_bind,if_pos (hf f (by simp)).1,hpart,Result.andThen_ok,hck,Sem.run_pure];exact h3
 have h7:=key (P.fieldsOf k).toList 0 [a.1,a.2] [] h2 (by rw[h6];exact h5) (by rw[h6];rfl) rfl;simp at h7 |-;rw[h7];rfl
theorem nW{k:Nat}(h:fu P k 2=true)(i:Int×Int):∀{es:List MapEntry} {kv:List ((Int×Int)×Bool)} (n:Nat),es.map (fun e=>(e.key,e.val))=kv.map (fun x=>(bN x.1,Value.bool x.2))->
  (∃j v,(Instr.findAsking k (bN i) es n).run P w=.ok (some (n+j,Value.bool v)) w/\sJ kv i=v/\(∃e,es[j]? =some e/\e.key=bN i)/\∀(x:Bool) (f:MapEntry->MapEntry),(∀e,(f e).key=bN i/\(f e).val=.bool x)->(es.modify j f).map (fun e=>(e.key,e.val))=(nN kv i x).map (fun x=>(bN x.1,Value.bool x.2)))\/
  ((Instr.findAsking k (bN i) es n).run P w=.ok none w/\sJ kv i=false/\∀x,nN kv i x=kv++[(i,x)])
 |[],[],n,_=>.inr ⟨by simp[Instr.findAsking],rfl,fun _=>rfl⟩
 |[],_::_,n,h=>by simp at h
 |_::_,[],n,h=>by simp at h
 |e::es,(q,y)::kv,n,hm=>by
  simp only[List.map_cons,List.cons.injEq,Prod.mk.injEq]at hm;obtain⟨⟨h1,h2⟩,h3⟩:=hm;unfold Instr.findAsking;rw[h1];simp only[Sem.run_bind,Ap h,Result.andThen_ok];unfold sJ;cases hk:(i.1==q.1&&i.2==q.2)with
  |true=>
   have hq:i=q:=by
    rw[qD,beq_iff_eq,beq_iff_eq]at hk;exact Prod.ext hk.1 hk.2
   subst hq;refine .inl ⟨0,y,by simp[h2],by simp,⟨e,rfl,h1⟩,fun x f hf=> ?_⟩;simp[hf,h3,nN]
  |false=>
   have hq:(q.1==i.1&&q.2==i.2)=false:=by
    rw[Bool.and_eq_false_iff,beq_eq_false_iff_ne,beq_eq_false_iff_ne]at hk |-;exact hk.imp Ne.symm Ne.symm
   rw[hq];simp only[qH];rcases nW h i (n+1) h3 with⟨j,v,q1,q2,q3,q4⟩|⟨q1,q2,q3⟩
   .refine .inl ⟨j+1,v,by rw[show n+(j+1)=n+1+j by omega];simpa using q1,q2,by simpa using q3,fun x f hf=> ?_⟩;unfold nN;rw[hq];simp only[List.modify_succ_cons,List.map_cons,q4 x f hf,h1,h2,qH]
   .refine .inr ⟨by simpa using q1,q2,fun x=> ?_⟩;unfold nN;rw[hq,q3 x];rfl
theorem o7{k:Nat}(h:fu P k 2=true)(i:Int×Int)(es:List MapEntry)(kv:List ((Int×Int)×Bool))(hm:es.map (fun e=>(e.key,e.val))=kv.map (fun x=>(bN x.1,Value.bool x.2))):(Instr.findKey k (bN i) es).run P w=(Instr.findAsking k (bN i) es 0).run P w\/(es=[]/\(Instr.findKey k (bN i) es).run P w=.ok none w):=by
 obtain⟨hu,_⟩:=oQ h;cases es with
 |nil=>exact .inr ⟨rfl,by simp[Instr.findKey,run_underlying hu,Instr.findNow]⟩
 |cons e es=>
  refine .inl ?_
  have:Instr.findNow (.struct (P.fieldsOf k)) (bN i) (e::es) 0=none:=by
   unfold Instr.findNow;simp[Instr.sameNow]
  simp[Instr.findKey,run_underlying hu,this]
variable {a:Act}{dst:Option Nat}{ty:TypeId}{pos:String}{aft:Array Edge}{gd:Option (Nat×Bool)}
theorem vG{k:Nat}(h:fu P k 2=true)(i:Int×Int)(es:List MapEntry)(kv:List ((Int×Int)×Bool))(hm:es.map (fun e=>(e.key,e.val))=kv.map (fun x=>(bN x.1,Value.bool x.2))):
  (∃j v,(Instr.findKey k (bN i) es).run P w=.ok (some (j,Value.bool v)) w/\sJ kv i=v/\(∃e,es[j]? =some e/\e.key=bN i)/\∀(x:Bool) (f:MapEntry->MapEntry),(∀e,(f e).key=bN i/\(f e).val=.bool x)->(es.modify j f).map (fun e=>(e.key,e.val))=(nN kv i x).map (fun x=>(bN x.1,Value.bool x.2)))\/
  ((Instr.findKey k (bN i) es).run P w=.ok none w/\sJ kv i=false/\∀x,nN kv i x=kv++[(i,x)]):=by
 rcases o7 (w:=w) h i es kv hm with h1|⟨h1,h2⟩
 .rw[h1];rcases nW (w:=w) h i 0 hm with⟨j,v,q1,q2⟩|q
  .exact .inl ⟨j,v,by rw[q1,Nat.zero_add],q2⟩
  .exact .inr q
 .subst h1;cases kv with
  |nil=>exact .inr ⟨h2,rfl,fun _=>rfl⟩
  |cons x l=>simp at hm
theorem AU{x y:Operand}{t k e b:Nat}{es:List MapEntry}{cl:Nat}{kv:List ((Int×Int)×Bool)}{i:Int×Int}{inf:TypeInfo}(hx:a.eval x=.map (some b))(hy:a.eval y=bN i)(ht:P.underlying t=some (.map k e))(hk:fu P k 2=true)(hi:P.info? e=some inf)(hz:inf.zero=some (.bool false))
  (hb:w.heap[b]? =some (.map es.toArray cl)) (he:es.map (fun e=>(e.key,e.val))=kv.map (fun x=>(bN x.1,Value.bool x.2))):(execOp a.eval ⟨dst,.lookup t x y false,ty,pos,aft,gd⟩).run P w=.ok (.value (.bool (sJ kv i))) w:=by
 have hg:(getObj b).run P w=.ok (.map es.toArray cl) w:=by simp[getObj,Sem.run,hb]
 have hzv:(zeroValue e).run P w=.ok (.bool false) w:=by simp[zeroValue,typeInfo,hi,hz]
 rcases vG (w:=w) hk i es kv he with⟨j,v,q1,q2,_⟩|⟨q1,q2,_⟩
 .simp[execOp,hx,hy,Instr.lookup,run_underlying ht,hg,fI hk,q1,q2]
 .simp[execOp,hx,hy,Instr.lookup,run_underlying ht,hg,fI hk,q1,hzv,q2]
theorem zk{x y z:Operand}{t k e b:Nat}{es:List MapEntry}{cl:Nat}{kv:List ((Int×Int)×Bool)}{i:Int×Int}{v:Bool}(hx:a.eval x=.map (some b))(hy:a.eval y=bN i)(hz:a.eval z=.bool v)(ht:P.underlying t=some (.map k e))(hk:fu P k 2=true)
  (hb:w.heap[b]? =some (.map es.toArray cl)) (he:es.map (fun e=>(e.key,e.val))=kv.map (fun x=>(bN x.1,Value.bool x.2))):
  ∃es' cl',(execOp a.eval ⟨dst,.mapUpdate t x y z,ty,pos,aft,gd⟩).run P w=.ok .skip { w with heap:=w.heap.setIfInBounds b (.map (List.toArray es') cl')}/\es'.map (fun e=>(e.key,e.val))=(nN kv i v).map (fun x=>(bN x.1,Value.bool x.2)):=by
 have hg:(getObj b).run P w=.ok (.map es.toArray cl) w:=by simp[getObj,Sem.run,hb]
 have hs:∀o,(setObj b o).run P w=.ok () { w with heap:=w.heap.setIfInBounds b o}:=fun o=>by simp[setObj,Sem.run,hb]
 rcases vG (w:=w) hk i es kv he with⟨j,v',q1,_,⟨ej,q2,q4⟩,q3⟩|⟨q1,_,q2⟩
 .have hsb:Instr.sameBits 10000 (bN i) (bN i)=true:=by simp[bN,Instr.sameBits]
  have hkt:(Instr.keyThatStays ((((es.toArray)[j]?).map (·.key)).getD (bN i)) (bN i)).run P w=.ok (bN i) w:=by
   simp[q2,q4,Instr.keyThatStays,hsb]
  refine⟨es.modify j fun e=>{ e with key:=bN i,val:=.bool v},cl,?_,q3 v _ fun e=>⟨rfl,rfl⟩⟩;simp[execOp,hx,hy,hz,Instr.mapUpdate,run_underlying ht,hg,fI hk,q1,hs];simp at hkt;simp[hkt,hs]
 .refine⟨es++[⟨bN i,.bool v,cl⟩],cl+1,?_,by rw[q2 v];simp[he]⟩;simp[execOp,hx,hy,hz,Instr.mapUpdate,run_underlying ht,hg,fI hk,q1,hs]
end Go.Tr
namespace Go.Tr
open Go Go.RowKit
universe u
def nH:R->SV->Prop
 | .no,_=>False
 | .ok v,u=>v=u
 | .vc p v,u=>p/\v=u
 | .ex f,u=>∃k:Nat,nH (f k) u
theorem nH.ok{v u:SV}(h:nH (.ok v) u):v=u:=h
theorem nH.vc{p:Prop}{v u:SV}(h:nH (.vc p v) u):p/\v=u:=h
theorem nH.no{u:SV}(h:nH .no u):False:=h
theorem nH.ex{f:Nat->R}{u:SV}(h:nH (.ex f) u):∃k:Nat,nH (f k) u:=h
section
variable {cx:Cx}{β:Nat->Value}{P:Program}{ti:TI}{n:Nat}{a:Act}{env:Ev}{rs:List Tok}{fr:List aM}{w:World}{g:Option (Nat×Bool)}
 {dst:Option Nat} {ty:TypeId} {pos:String} {aft:Array Edge} {gd:Option (Nat×Bool)} {v:SV}
theorem ay{k:IntKind}{i:Int}{x:Value}(h:Den cx β (.int k i) x):x=.int k i:=by unfold Den at h;exact h
theorem bL{b:Bool}{x:Value}(h:Den cx β (.bool b) x):x=.bool b:=by unfold Den at h;exact h
theorem eT{o:BinOp}{t:TypeId}{k:IntKind}{i j:Int}(h:(match o with| .shl=>false| .shr=>false|_=>true)=true):(binOp o t (.int k i) (.int k j))=(match o with
  | .add| .sub| .mul=>Op.intArith o k i j
  | .quo| .rem=>Op.intDiv o k i j
  | .and| .or| .xor| .andNot=>Op.intBits o k i j
  |_=>Op.intCmp o i j):=by
 cases o<;>first|(cases h;done)|(unfold binOp;simp)
theorem Cu{x y:Operand}{o:BinOp}{t u:TypeId}{k k':IntKind}{i j:Int}{z:Value}(hx:a.eval x=.int k i)(hy:a.eval y=.int k' j)(hr:(binOp o t (.int k i) (.int k' j)).run P w=.ok z w):
  (execOp a.eval ⟨dst,.binOp o t x y u,ty,pos,aft,gd⟩).run P w=.ok (.value z) w:=by
 have he:(eqGuard o t x y (.int k i) (.int k' j)).run P w=.ok () w:=by
  unfold eqGuard;split<;>rfl
 simp[execOp,hx,hy,he,hr]
theorem Ah{o:BinOp}{t:TypeId}{k k':IntKind}{i j:Int}{v:SV}(h:nH (BQ o k k' i j) v):∃z,(binOp o t (.int k i) (.int k' j)).run P w=.ok z w/\∀(cx:Cx) (β:Nat->Value),Den cx β v z:=by
 unfold BQ at h;split at h
 .obtain⟨h1,rfl⟩:=h.vc;refine⟨_,?_,fun cx β=>by unfold Den;rfl⟩;simp[binOp,Op.shift,Int.not_lt.2 h1]
 .obtain⟨h1,rfl⟩:=h.vc;refine⟨_,?_,fun cx β=>by unfold Den;rfl⟩;simp[binOp,Op.shift,Int.not_lt.2 h1]
 .rename_i o n1 n2;cases hk:(k==k')with
  |false=>rw[hk]at h;exact h.no.elim
  |true=>
   rw[hk]at h;have hk:=eq_of_beq hk;subst hk;simp only[qG]at h;split at h
   .have:=h.ok;subst this;exact⟨_,by rw[eT rfl];rfl,fun cx β=>by unfold Den;rfl⟩
   .have:=h.ok;subst this;exact⟨_,by rw[eT rfl];rfl,fun cx β=>by unfold Den;rfl⟩
   .have:=h.ok;subst this;exact⟨_,by rw[eT rfl];rfl,fun cx β=>by unfold Den;rfl⟩
   .obtain⟨h1,rfl⟩:=h.vc;exact⟨_,by rw[eT rfl];simp only[Op.intDiv,if_neg h1];rfl,fun cx β=>by unfold Den;rfl⟩
   .obtain⟨h1,rfl⟩:=h.vc;exact⟨_,by rw[eT rfl];simp only[Op.intDiv,if_neg h1];rfl,fun cx β=>by unfold Den;rfl⟩
   .have:=h.ok;subst this;exact⟨_,by rw[eT rfl];rfl,fun cx β=>by unfold Den;rfl⟩
   .have:=h.ok;subst this;exact⟨_,by rw[eT rfl];rfl,fun cx β=>by unfold Den;rfl⟩
   .have:=h.ok;subst this;exact⟨_,by rw[eT rfl];rfl,fun cx β=>by unfold Den;rfl⟩
   .have:=h.ok;subst this;exact⟨_,by rw[eT rfl];rfl,fun cx β=>by unfold Den;rfl⟩
   .have:=h.ok;subst this;exact⟨_,by rw[eT rfl];rfl,fun cx β=>by unfold Den;rfl⟩
   .have:=h.ok;subst this;exact⟨_,by rw[eT rfl];rfl,fun cx β=>by unfold Den;rfl⟩
   .have:=h.ok;subst this;exact⟨_,by rw[eT rfl];rfl,fun cx β=>by unfold Den;rfl⟩
   .have:=h.ok;subst this;exact⟨_,by rw[eT rfl];rfl,fun cx β=>by unfold Den;rfl⟩
   .have:=h.ok;subst this;exact⟨_,by rw[eT rfl];rfl,fun cx β=>by unfold Den;rfl⟩
   .exact h.no.elim
theorem Bf(x:ByteArray):∀(n i:Nat) (acc:List UInt8),x.size-i=n->ByteArray.toList.loop x i acc=acc.reverse++x.data.toList.drop i:=by
 intro n
 induction n with
 |zero=>
  intro i acc h;unfold ByteArray.toList.loop;have:¬i<x.size:=by omega
  rw[if_neg this,List.drop_eq_nil_of_le (by rw[Array.length_toList];show x.size<=i;omega),qS]
 |succ n ih=>
  intro i acc h;unfold ByteArray.toList.loop;have hlt:i<x.size:=by omega
  have hlt':i<x.data.toList.length:=by rw[Array.length_toList];exact hlt
  rw[if_pos hlt,ih (i+1) _ (by omega),List.drop_eq_getElem_cons hlt',List.reverse_cons,qF]
  have:x.get! i=x.data.toList[i]:=by
   show x.data[i]! =_;rw[getElem!_pos x.data i hlt];simp
  rw[this];rfl
theorem oN(x:ByteArray):x.toList=x.data.toList:=by
 unfold ByteArray.toList;rw[Bf x _ 0 [] rfl];simp
theorem fU(a b:ByteArray):(a.toList==b.toList)=decide (a=b):=by
 by_cases h:a=b
 .subst h;simp
 .have:¬a.toList=b.toList:=fun e=>h (by
   have h1:∀x:ByteArray,x.toList=x.data.toList:=fun x=>oN x
   rw[h1,h1]at e;cases a;cases b;simp only at e;rw[Array.toList_inj.1 e])
  simp[h,this]
theorem Ag{o:BinOp}{t:TypeId}{x y:ByteArray}{v:SV}(h:nH (BP o x y) v):∃z,(binOp o t (.string x) (.string y)).run P w=.ok z w/\∀(cx:Cx) (β:Nat->Value),Den cx β v z:=by
 unfold BP at h;split at h
 .obtain⟨h1,rfl⟩:=h.vc;refine⟨.string (x++y),?_,fun cx β=>by unfold Den;exact⟨rfl,rfl⟩⟩
  have:¬(IntKind.i64.max<(x.size:Int)+(y.size:Int)):=by
   have:IntKind.i64.max=9223372036854775807:=by decide
   omega
  have this:(x.size:Int)+(y.size:Int)<=IntKind.i64.max:=Int.not_lt.1 this;simp only[binOp,Op.stringOp,Int.natCast_add,gt_iff_lt,Int.not_lt.2 this,if_false];rfl
 .have:=h.ok;subst this;refine⟨.bool (x.toList==y.toList),?_,fun cx β=>by unfold Den;rw[fU]⟩;simp[binOp,Op.stringOp]
 .have:=h.ok;subst this;refine⟨.bool (!(x.toList==y.toList)),?_,fun cx β=>by unfold Den;rw[fU]⟩;simp[binOp,Op.stringOp]
 .exact h.no.elim
theorem Cv{x y:Operand}{o:BinOp}{t u:TypeId}{i j:ByteArray}{z:Value}(hx:a.eval x=.string i)(hy:a.eval y=.string j)(hr:(binOp o t (.string i) (.string j)).run P w=.ok z w):
  (execOp a.eval ⟨dst,.binOp o t x y u,ty,pos,aft,gd⟩).run P w=.ok (.value z) w:=by
 have he:(eqGuard o t x y (.string i) (.string j)).run P w=.ok () w:=by
  unfold eqGuard;split<;>rfl
 simp[execOp,hx,hy,he,hr]
theorem BR{o:BinOp}{x y:Operand}{t u:TypeId}{s1 s2:SV}{v1 v2:Value}(h1:a.eval x=v1)(d1:Den cx β s1 v1)(h2:a.eval y=v2)(d2:Den cx β s2 v2)(h:nH (BO o s1 s2) v):
  ∃val,(execOp a.eval ⟨dst,.binOp o t x y u,ty,pos,aft,gd⟩).run P w=.ok (.value val) w/\Den cx β v val:=by
 have key:∀{i j:Int} {z:Value} {s:SV},s1=.int .i64 i->s2=.int .i64 j->(∀w:World,(binOp o t (.int .i64 i) (.int .i64 j)).run P w=.ok z w)->Den cx β s z->s=v->
   ∃val,(execOp a.eval ⟨dst,.binOp o t x y u,ty,pos,aft,gd⟩).run P w=.ok (.value val) w/\Den cx β v val:=by
  intro i j z s e1 e2 hr hd e;subst e1 e2 e;rw[ay d1]at h1;rw[ay d2]at h2;exact⟨z,DL h1 h2 (hr w),hd⟩
 unfold BO at h;split at h
 .exact key rfl rfl (fun w=>CZ rfl) (by unfold Den;rfl) h.ok
 .exact key rfl rfl (fun w=>Dk rfl) (by unfold Den;rfl) h.ok
 .exact key rfl rfl (fun w=>Df rfl) (by unfold Den;rfl) h.ok
 .exact key rfl rfl (fun w=>Di h.vc.1 rfl) (by unfold Den;rfl) h.vc.2
 .exact key rfl rfl (fun w=>Dj h.vc.1 rfl) (by unfold Den;rfl) h.vc.2
 .exact key rfl rfl (fun w=>Dc rfl) (by unfold Den;rfl) h.ok
 .exact key rfl rfl (fun w=>Db rfl) (by unfold Den;rfl) h.ok
 .exact key rfl rfl (fun w=>Da rfl) (by unfold Den;rfl) h.ok
 .exact key rfl rfl (fun w=>C9 rfl) (by unfold Den;rfl) h.ok
 .exact key rfl rfl (fun w=>C8 rfl) (by unfold Den;rfl) h.ok
 .exact key rfl rfl (fun w=>Dh rfl) (by unfold Den;rfl) h.ok
 .obtain⟨z,h3,h4⟩:=Ah (P:=P) (w:=w) (t:=t) h;rw[ay d1]at h1;rw[ay d2]at h2;exact⟨z,Cu h1 h2 h3,h4 cx β⟩
 .rename_i a' b';obtain⟨z,h3,h4⟩:=Ag (P:=P) (w:=w) (t:=t) h;unfold Den at d1 d2;rw[d1.1]at h1;rw[d2.1]at h2;exact⟨z,Cv h1 h2 h3,h4 cx β⟩
 .exact h.no.elim
theorem zy{b o:Nat}{u:U}{x:El u}(h:kR cx.w0 cx.F0 b o (enc u x))(H:Inv cx.w0 cx.F0 w fr):∃us,Go.Tr.aT w b o us/\ah cx β (aW u x) us/\us.length=u.size:=by
 obtain⟨h1,h2,us,h3,h4⟩:=h;have:=dU (cx:=cx) (β:=β) u x h4;exact⟨us,h3.keep (H.gM.other b h1 h2),this,by rw[this.len,bS]⟩
theorem ah.solid{cx':Cx}{β':Nat->Value}:∀{l:List SV} {us:aO},ah cx β l us->dw l=true->ah cx' β' l us
 |[],us,h,_=>by unfold ah at h |-;exact h
 |s::l,us,h,hs=>by
  unfold ah at h |-;obtain⟨v,vs',h1,h2,h3⟩:=h;cases s<;>unfold dw at hs<;>first|exact⟨v,vs',h1,(by unfold Den at h2 |-;exact h2),h3.solid hs⟩|cases hs
theorem dB.xq{w0:World}{F0:aK}{n:Nat}{ds:List D}{v:Value}(h:dB w0 F0 (.sl n ds) v):∃A c,(0<n->∃b o,A=some ⟨b,o,none⟩)/\v=.slice A n c:=by
 obtain⟨bs,h1,_⟩:=h;unfold T1 at h1;obtain⟨A,c,he,_,_,h1⟩:=h1;refine⟨A,c,fun hp=> ?_,he⟩;rcases h1 with⟨h0,_⟩|⟨_,b,off,us,bs',hA,_⟩
 .omega
 .exact⟨b,off,hA⟩
theorem uF[GT w []]{us:aO}{k:Int}{s:Nat}:∀{l:List SV} {vs:aO} {o:Nat},ah ⟨w,[]⟩ β l vs->gq l=true->(∀j v,vs[j]? =some v->us.getD (k.toNat*s+(o+j)) undef=v)->ah cx β (zY us k s o l) vs
 |[],vs,o,h,_,_=>by unfold ah at h;subst h;unfold zY ah;rfl
 |c::l,vs,o,h,hn,hg=>by
  unfold ah at h;obtain⟨v,vs',rfl,h1,h2⟩:=h
  have ih:gq l=true->ah cx β (zY us k s (o+1) l) vs':=fun hn=>uF h2 hn fun j v hv=>by
   have:=hg (j+1) v (by simpa using hv);rw[show o+1+j=o+(j+1) by omega];exact this
  cases c<;>unfold gq at hn<;>first|cases hn|skip
  case rsl e ys=>
   unfold zY ah;refine⟨v,vs',rfl,?_,ih hn⟩;have h0:=hg 0 v rfl;rw[Nat.add_zero]at h0;unfold Den at h1 |-;obtain⟨A,c,hpos,rfl⟩:=h1.xq;rw[h0];exact⟨rfl,A,c,rfl,hpos⟩
  all_goals
   unfold zY ah;exact⟨v,vs',rfl,by unfold Den at h1 |-;exact h1,ih hn⟩
theorem x9(H:Inv cx.w0 cx.F0 w (rs.map (Tok.res cx β)++fr)){q:Nat}{r:rA}(hr:rowOf rs q=some r){b z m c i s o:Nat}(hb:β q=.slice (some ⟨b,z,none⟩) m c){us:aO}(hca:Go.Tr.aT w b (z+i*s) us)(hus:us.length=s)(hle:i*s+s<=r.us.length){n:Nat}:
  ∀j v,((us.drop o).take n)[j]? =some v->r.us.getD (i*s+(o+j)) undef=v:=fun j v hv=>by
 rw[List.getElem?_take]at hv;split at hv
 .rw[List.getElem?_drop]at hv;have hlt:=(qE.1 hv).1;have h1:=hca (o+j) v hv;rw[Nat.add_assoc]at h1;have h2:r.us[i*s+(o+j)]? =some (r.us[i*s+(o+j)]'(by omega)):=qB (by omega);have h3:=zC H hr hb h2;rw[h1]at h3;rw[qC,h2];injection h3 with h3
  exact h3.symm
 .cases hv
theorem vN(H:Inv cx.w0 cx.F0 w (rs.map (Tok.res cx β)++fr)){q:Nat}{r:rA}(hr:rowOf rs q=some r){k:Int}{o:Nat}{hdr:Value}(hk:sG r.xs r.us k r.s o hdr){e:U}{ys:List (El e)}(hn:pV r.u (elt (dflt r.u) r.xs k) o=some ⟨.sl e,ys⟩):
  dB w [] (.sl ys.length (ys.flatMap (enc e))) hdr:=by
 haveI:=cx.Eh H
 obtain⟨t',s,u,xs,us0⟩:=r;obtain⟨h0,h1,h2⟩:=hk;simp only at h0 h1 h2 hn;obtain⟨e1,A,c',bs,e2,e3,e4⟩:=kN H hr;simp only at e1 e2 e3 e4;have him:k.toNat<xs.length:=by omega
 obtain⟨b,z,rfl⟩:=e4 (by omega);rw[e2]at e3;obtain⟨_,b',off,b1,b2,b3,us,hA,_,hb',hc,ht⟩:=T1.at_ (aN u) e3 rfl him;injection hA with hA
 injection hA with hA1 hA2
 subst hA1 hA2;have hx':xs[k.toNat]'him=elt (dflt u) xs k:=by unfold elt;rw[qC,qB him];rfl
 rw[hx']at ht;have hds:=dU (cx:=⟨w,[]⟩) (β:=β) u _ (eO.of ht);unfold pV at hn;split at hn
 .rename_i e' ys' hnth;injection hn with hn
  injection hn with q1 q2
  injection q1 with q1
  subst q1;cases q2;obtain⟨v,k1,k2⟩:=hds.get hnth;have hcell:=hc o v k1;rw[e1,Nat.add_assoc]at hcell;have h3:=zC H hr e2 h2;rw[h3]at hcell;injection hcell with hcell
  subst hcell;unfold Den at k2;exact k2
 .cases hn
theorem y5[GT w []]{e:U}{ys:List (El e)}{hdr:Value}(h:dB w [] (.sl ys.length (ys.flatMap (enc e))) hdr){n:Nat}{b o c:Nat}(hh:hdr=.slice (some ⟨b,o,none⟩) n c){i:Int}(h0:0<=i)(h1:i<(n:Nat)):
  ∃us,Go.Tr.aT w b (o+i.toNat*e.size) us/\ah ⟨w,[]⟩ β (aW e (elt (dflt e) ys i)) us/\us.length=e.size:=by
 subst hh
 have hm:n=ys.length:=by
  obtain⟨bs,ht,_⟩:=h;obtain⟨A',c',h2,_⟩:=ht.slice;injection h2
 subst hm;obtain⟨b',off,x,h2,h3,h4⟩:=h.elem (aN e) rfl (k:=i.toNat) (by omega);injection h2 with h2
 injection h2 with h2 h5
 subst h2 h5;have:elt (dflt e) ys i=x:=by unfold elt;rw[qC,h3];rfl
 rw[this];obtain⟨k1,k2,us,k3,k4⟩:=h4;have h6:=dU (cx:=⟨w,[]⟩) (β:=β) e x k4;exact⟨us,k3,h6,by rw[h6.len,bS]⟩
theorem Ay(hti:bE P ti=true)(H:Inv cx.w0 cx.F0 w (rs.map (Tok.res cx β)++fr)){t:TypeId}{x:Operand}{s:SV}{y:Value}(hx:a.eval x=y)(hd:Den cx β s y)(h:nH (yQ ti rs t s) v):
  ∃val,(execOp a.eval ⟨dst,.load t x,ty,pos,aft,gd⟩).run P w=.ok (.value val) w/\Den cx β v val:=by
 haveI:=cx.Eh H
 unfold yQ at h;cases s with
 |rp u x=>
  unfold Den at hd;obtain⟨b,o,rfl,hp⟩:=hd;obtain⟨us,hc,hs,hl⟩:=zy (β:=β) hp H;simp only at h;cases hlk:lk ti t with
  |none=>rw[hlk]at h;exact h.no.elim
  |some i=>
   rw[hlk]at h
   by_cases hi:∃m k u' z,i=.st m k u' z
   .obtain⟨m,k,u',z,rfl⟩:=hi;obtain⟨h1,h2,h3,_⟩:=gF hti hlk;simp only at h;cases hb:Nat.beq u.size k with
    |false=>rw[hb]at h;exact h.no.elim
    |true=>
     rw[hb]at h;have:=h.ok;subst this;exact⟨_,jB hx h1 (by rw[h2,hl,ak hb]) hc,by unfold Den;exact⟨us,rfl,hs⟩⟩
   .have h1:=nu hti hlk (fun m k u z e=>hi ⟨m,k,u,z,e⟩)
    have h2:nH (match aW u x with|[v]=>.ok v|_=>.no) v:=by
     cases i with
     |st m k u' z=>exact absurd ⟨m,k,u',z,rfl⟩ hi
     |sc z=>exact h
     |ptr z=>exact h
     |bool=>exact h
     |sl e s u'=>exact h
     |mp u'=>exact h
     |mp2=>exact h
    split at h2
    .rename_i s' he;have:=h2.ok;subst this;rw[he]at hs;unfold ah at hs;obtain⟨v1,vs',rfl,h3,h4⟩:=hs;exact⟨v1,mH hx h1 (by have:=hc 0 v1 rfl;simpa using this),h3⟩
    .exact h2.no.elim
 |ptr g o=>
  unfold Den at hd;obtain⟨b,hb,rfl⟩:=hd;simp only at h;cases hcel:bU rs g with
  |none=>rw[hcel]at h;exact h.no.elim
  |some cs=>
   rw[hcel]at h;simp only at h;obtain⟨b',us,t',e1,e2,e3,e4⟩:=oO H hcel;rw[hb]at e1;injection e1 with e1
   injection e1 with e1
   injection e1 with e1
   subst e1
   have hcs:Go.Tr.aT w b 0 us:=fun j u hu=>by
    have:=jE (i:=j) e4 (by simpa using hu);simpa using this
   cases hlk:lk ti t with
   |none=>rw[hlk]at h;exact h.no.elim
   |some i=>
    rw[hlk]at h
    by_cases hi:∃m k u' z,i=.st m k u' z
    .obtain⟨m,k,u',z,rfl⟩:=hi;obtain⟨h1,h2,h3,_⟩:=gF hti hlk;simp only at h;cases htk:takeN k (dG o cs)with
     |none=>rw[htk]at h;exact h.no.elim
     |some l=>
      rw[htk]at h;have:=h.ok;subst this;obtain⟨h4,h5⟩:=gZ htk;rw[d9]at h4;have hd2:=(e2.drop o).take k;rw[h4]at hd2;refine⟨_,jB hx h1 (by rw[h2,hd2.len,h5]) (us:=(us.drop o).take k) (fun j u hu=> ?_),by unfold Den;exact⟨_,rfl,hd2⟩⟩
      have hj:us[o+j]? =some u:=by
       have:=List.getElem?_take (l:=us.drop o) (i:=k) (j:=j);rw[this]at hu;split at hu
       .simpa using hu
       .cases hu
      have:=hcs (o+j) u hj;simpa using this
    .have h1:=nu hti hlk (fun m k u z e=>hi ⟨m,k,u,z,e⟩)
     have h2:nH (match nth cs o with|some v=>.ok v|none=>.no) v:=by
      cases i with
      |st m k u' z=>exact absurd ⟨m,k,u',z,rfl⟩ hi
      |sc z=>exact h
      |ptr z=>exact h
      |bool=>exact h
      |sl e s u'=>exact h
      |mp u'=>exact h
      |mp2=>exact h
     split at h2
     .rename_i s' he;have:=h2.ok;subst this;obtain⟨v1,h3,h4⟩:=e2.get he;exact⟨v1,mH hx h1 (by have:=hcs o v1 h3;simpa using this),h4⟩
     .exact h2.no.elim
 |ep g s i o=>
  unfold Den at hd;obtain⟨b,z,m,c,hb,him,rfl⟩:=hd;simp only at h;cases hrow:rowOf rs g with
  |none=>
   rw[hrow]at h;simp only at h;cases hdat:bP rs g with
   |none=>rw[hdat]at h;exact h.no.elim
   |some r=>
    obtain⟨t',s',u,xs⟩:=r;rw[hdat]at h;simp only at h;cases hbs:Nat.beq s s' with
    |false=>rw[hbs]at h;exact h.no.elim
    |true=>
     rw[hbs]at h;simp only[qG]at h;have hss:=ak hbs;subst hss
     have hm:m=xs.length:=by
      obtain⟨_,A,c',e⟩:=xX H hdat
      rw[hb]at e;injection e
     subst hm;obtain⟨e1,b',c',us,e2,hca,hds⟩:=rP H hdat him;simp only at e1 e2 hca hds;rw[hb]at e2;injection e2 with e3
     injection e3 with e3
     injection e3 with e3 e3z
     subst e3 e3z;cases hlk:lk ti t with
     |none=>rw[hlk]at h;exact h.no.elim
     |some q=>
      rw[hlk]at h
      by_cases hi:∃m k u' z,q=.st m k u' z
      .obtain⟨m,k,u',z,rfl⟩:=hi;obtain⟨h1,h2,h3,_⟩:=gF hti hlk;simp only at h;cases htk:takeN k (dG o (aW u (elt (dflt u) xs i)))with
       |none=>rw[htk]at h;exact h.no.elim
       |some l=>
        rw[htk]at h;simp only at h;obtain⟨h4,h5⟩:=gZ htk;rw[d9]at h4;have hd2:=(hds.drop o).take k;rw[h4]at hd2;have:=h.ok;subst this;refine⟨_,jB hx h1 (by rw[h2,hd2.len,h5]) (us:=(us.drop o).take k) (fun j y hy=> ?_),by unfold Den;exact⟨_,rfl,hd2⟩⟩
        have hj:us[o+j]? =some y:=by
         have:=List.getElem?_take (l:=us.drop o) (i:=k) (j:=j);rw[this]at hy;split at hy
         .simpa using hy
         .cases hy
        have:=hca (o+j) y hj;rw[<-Nat.add_assoc]at this;rw[Nat.zero_add];exact this
      .have h1:=nu hti hlk (fun m k u z e=>hi ⟨m,k,u,z,e⟩)
       have h2:nH (match nth (aW u (elt (dflt u) xs i)) o with|some v=>.ok v|none=>.no) v:=by
        cases q with
        |st m k u' z=>exact absurd ⟨m,k,u',z,rfl⟩ hi
        |sc z=>exact h
        |ptr z=>exact h
        |bool=>exact h
        |sl e s u'=>exact h
        |mp u'=>exact h
        |mp2=>exact h
       split at h2
       .rename_i s' he;have:=h2.ok;subst this;obtain⟨v1,h3,h4⟩:=hds.get he;exact⟨v1,mH hx h1 (by have:=hca o v1 h3;rw[Nat.zero_add];exact this),h4⟩
       .exact h2.no.elim
  |some r=>
   obtain⟨t',s',u,xs,us0⟩:=r;rw[hrow]at h;simp only at h;cases hbs:Nat.beq s s' with
   |false=>rw[hbs]at h;exact h.no.elim
   |true=>
    rw[hbs]at h;simp only[qG]at h;obtain⟨e1,A,c',bs,e2,e3,_⟩:=kN H hrow;simp only at e1 e2 e3;have hss:=ak hbs;rw[hb]at e2 e3;injection e2 with e4 e5 e6
    subst e4 e5 e6;obtain⟨_,b',off,b1,b2,b3,us,hA,_,hb',hc,ht⟩:=T1.at_ (aN u) e3 rfl him;injection hA with hA
    injection hA with hA1 hA2
    subst hA1 hA2;have hx':xs[i.toNat]'him=elt (dflt u) xs i:=by unfold elt;rw[qC,qB him];rfl
    rw[hx']at ht;have hds:=dU (cx:=⟨w,[]⟩) (β:=β) u _ (eO.of ht)
    have hca:Go.Tr.aT w b (z+i.toNat*s) us:=by
     have:=hc;rw[e1,<-hss]at this;exact this
    cases hlk:lk ti t with
    |none=>rw[hlk]at h;exact h.no.elim
    |some q=>
     rw[hlk]at h
     by_cases hi:∃m k u' z,q=.st m k u' z
     .obtain⟨m,k,u',z,rfl⟩:=hi;obtain⟨h1,h2,h3,_⟩:=gF hti hlk;simp only at h;cases htk:takeN k (dG o (aW u (elt (dflt u) xs i)))with
      |none=>rw[htk]at h;exact h.no.elim
      |some l=>
       rw[htk]at h;simp only at h;obtain⟨h4,h5⟩:=gZ htk;rw[d9]at h4;have hd2:=(hds.drop o).take k;rw[h4]at hd2
       have hres:∃l',v=.agg l'/\ah cx β l' ((us.drop o).take k):=by
        cases hso:dw l with
        |false=>
         rw[hso]at h;simp only[qH]at h;cases hne:gq l with
         |false=>rw[hne]at h;exact h.no.elim
         |true=>
          rw[hne]at h;obtain⟨hv1,hv2⟩:=h.vc;exact⟨_,hv2.symm,uF hd2 hne (x9 H hrow hb hca (by rw[hds.len,bS,e1,hss]) hv1)⟩
        |true=>
         rw[hso]at h;exact⟨_,h.ok.symm,hd2.solid hso⟩
       obtain⟨l',rfl,hl'⟩:=hres
       .refine⟨_,jB hx h1 (by rw[h2,hd2.len,h5]) (us:=(us.drop o).take k) (fun j y hy=> ?_),by unfold Den;exact⟨_,rfl,hl'⟩⟩
        have hj:us[o+j]? =some y:=by
         have:=List.getElem?_take (l:=us.drop o) (i:=k) (j:=j);rw[this]at hy;split at hy
         .simpa using hy
         .cases hy
        have:=hca (o+j) y hj;rw[<-Nat.add_assoc]at this;rw[<-Nat.add_assoc];exact this
     .have h1:=nu hti hlk (fun m k u z e=>hi ⟨m,k,u,z,e⟩)
      have h2:nH (match nth (aW u (elt (dflt u) xs i)) o with|some v=>bif dw [v]then .ok v else bif gq [v]then(match zY us0 i s o [v]with|[v']=>.vc (i.toNat*s+s<=us0.length) v'|_=>.no)else .no|none=>.no) v:=by
       cases q with
       |st m k u' z=>exact absurd ⟨m,k,u',z,rfl⟩ hi
       |sc z=>exact h
       |ptr z=>exact h
       |bool=>exact h
       |sl e s u'=>exact h
       |mp u'=>exact h
       |mp2=>exact h
      split at h2
      .rename_i s' he;obtain⟨v1,h3,h4⟩:=hds.get he
       have hld:(execOp a.eval ⟨dst,.load t x,ty,pos,aft,gd⟩).run P w=.ok (.value v1) w:=mH hx h1 (by
        have:=hca o v1 h3;rw[<-Nat.add_assoc];exact this)
       cases hso:dw [s']with
       |false=>
        rw[hso]at h2;simp only[qH]at h2;cases hne:gq [s']with
        |false=>rw[hne]at h2;exact h2.no.elim
        |true=>
         rw[hne]at h2;simp only[qG]at h2;split at h2
         .rename_i v' hv';obtain⟨hv1,hv2⟩:=h2.vc;subst hv2;refine⟨v1,hld,?_⟩
          have hone:((us.drop o).take 1)=[v1]:=by
           rw[<-qE.1 h3 |>.2,List.drop_eq_getElem_cons (qE.1 h3).1];rfl
          have:=uF (cx:=cx) (us:=us0) (k:=i) (s:=s) (o:=o) (ah.one h4) hne (by
           have:=x9 (o:=o) (n:=1) H hrow hb hca (by rw[hds.len,bS,e1,hss]) hv1;rw[hone]at this;exact this)
          rw[hv']at this;unfold ah at this;obtain⟨v2,vs',h5,h6,_⟩:=this;injection h5 with h5
          subst h5;exact h6
         .exact h2.no.elim
       |true=>
        rw[hso]at h2;have:=h2.ok;subst this;refine⟨v1,hld,?_⟩
        .have:=(ah.one h4).solid (cx':=cx) (β':=β) hso;unfold ah at this;obtain⟨v2,vs',h5,h6,_⟩:=this;injection h5 with h5
         subst h5;exact h6
      .exact h2.no.elim
 |np k o n hdr s2 i j=>
  unfold Den at hd;obtain⟨b,o',c,hh,rfl⟩:=hd;simp only at h;obtain⟨q,hq⟩:=h.ex;clear h;revert hq;intro h;cases hrow:rowOf rs q with
  |none=>rw[hrow]at h;exact h.no.elim
  |some r=>
   rw[hrow]at h;simp only at h;split at h
   .rename_i e ys hne;cases hbs:Nat.beq s2 e.size with
    |false=>rw[hbs]at h;exact h.no.elim
    |true=>
     rw[hbs]at h;simp only[qG]at h;have hss:=ak hbs;subst hss;have key:(sG r.xs r.us k r.s o hdr/\0<=i/\i<(n:Nat))->∃us,Go.Tr.aT w b (o'+i.toNat*e.size) us/\ah ⟨w,[]⟩ β (aW e (elt (dflt e) ys i)) us/\us.length=e.size:=fun hv=>y5 (vN H hrow hv.1 hne) hh hv.2.1 hv.2.2
     cases hlk:lk ti t with
     |none=>rw[hlk]at h;exact h.no.elim
     |some z=>
      rw[hlk]at h
      by_cases hi:∃m k u' z',z=.st m k u' z'
      .obtain⟨m,k',u',z',rfl⟩:=hi;obtain⟨h1,h2,h3,_⟩:=gF hti hlk;simp only at h;cases htk:takeN k' (dG j (aW e (elt (dflt e) ys i)))with
       |none=>rw[htk]at h;exact h.no.elim
       |some l=>
        rw[htk]at h;simp only at h;cases hso:dw l with
        |false=>rw[hso]at h;exact h.no.elim
        |true=>
         rw[hso]at h;obtain⟨hv1,hv2⟩:=h.vc;subst hv2;obtain⟨us,hca,hds,hul⟩:=key hv1;obtain⟨h4,h5⟩:=gZ htk;rw[d9]at h4;have hd2:=(hds.drop j).take k';rw[h4]at hd2;refine⟨_,jB hx h1 (by rw[h2,hd2.len,h5]) (us:=(us.drop j).take k') (fun p y hy=> ?_),by unfold Den;exact⟨_,rfl,hd2.solid hso⟩⟩
         have hj:us[j+p]? =some y:=by
          rw[List.getElem?_take]at hy;split at hy
          .simpa using hy
          .cases hy
         have:=hca (j+p) y hj;rw[<-Nat.add_assoc]at this;exact this
      .have h1:=nu hti hlk (fun m k u z e=>hi ⟨m,k,u,z,e⟩)
       have h2:nH (match nth (aW e (elt (dflt e) ys i)) j with|some v=>bif dw [v]then .vc (sG r.xs r.us k r.s o hdr/\0<=i/\i<(n:Nat)) v else .no|none=>.no) v:=by
        cases z with
        |st m k u' z=>exact absurd ⟨m,k,u',z,rfl⟩ hi
        |sc z=>exact h
        |ptr z=>exact h
        |bool=>exact h
        |sl e s u'=>exact h
        |mp u'=>exact h
        |mp2=>exact h
       split at h2
       .rename_i s' he;cases hso:dw [s']with
        |false=>rw[hso]at h2;exact h2.no.elim
        |true=>
         rw[hso]at h2;obtain⟨hv1,hv2⟩:=h2.vc;subst hv2;obtain⟨us,hca,hds,hul⟩:=key hv1;obtain⟨v1,h3,h4⟩:=hds.get he;refine⟨v1,mH hx h1 (hca j v1 h3),?_⟩;have:=(ah.one h4).solid (cx':=cx) (β':=β) hso;unfold ah at this;obtain⟨v2,vs',h5,h6,_⟩:=this;injection h5 with h5
         subst h5;exact h6
       .exact h2.no.elim
   .exact h.no.elim
 |int _ _|bool _|raw _|rsl _ _|sl _|agg _|tup _|fn _ _|un|gd _ _ _|nh _ _ _ _|mp _|nn _ _|sx _ _ _ _=>exact h.no.elim
theorem Am{e:U}{xs:List (El e)}{A:Option Addr}{m c:Nat}(h:dB cx.w0 cx.F0 (.sl xs.length (xs.flatMap (enc e))) (.slice A m c)){i:Int}(h0:0<=i)(h1:i<(xs.length:Nat)):
  ∃b off,A=some ⟨b,off,none⟩/\m=xs.length/\kR cx.w0 cx.F0 b (off+i.toNat*e.size) (enc e (elt (dflt e) xs i)):=by
 have hm:m=xs.length:=by
  obtain⟨bs,ht,_⟩:=h;obtain⟨A',c',h2,_⟩:=ht.slice;injection h2
 obtain⟨b,off,x,h2,h3,h4⟩:=h.elem (aN e) rfl (k:=i.toNat) (by omega);refine⟨b,off,h2,hm,?_⟩
 have:elt (dflt e) xs i=x:=by
  unfold elt;rw[qC,h3];rfl
 rw[this];exact h4
theorem uP{e:U}{xs:List (El e)}{A:Option Addr}{m c:Nat}(h:dB cx.w0 cx.F0 (.sl xs.length (xs.flatMap (enc e))) (.slice A m c)):m=xs.length/\m<=c:=by
 obtain⟨bs,h1,_⟩:=h;unfold T1 at h1;obtain⟨A',c',he,h2,_⟩:=h1;injection he with a1 a2 a3
 subst a2 a3;exact⟨rfl,h2⟩
theorem uQ{e:U}{xs:List (El e)}{A:Option Addr}{m c:Nat}(h:dB cx.w0 cx.F0 (.sl xs.length (xs.flatMap (enc e))) (.slice A m c)){i j:Nat}(hij:i<=j)(hj:j<=xs.length):
  dB cx.w0 cx.F0 (.sl (List.length ((xs.drop i).take (j-i))) (((xs.drop i).take (j-i)).flatMap (enc e))) (.slice (if c=i then A else A.map (·.add (i*e.size))) (j-i) (c-i)):=by
 have hl:((xs.drop i).take (j-i)).length=j-i:=by rw[List.length_take,List.length_drop];omega
 rw[hl];obtain⟨bs,h1,hF⟩:=h;unfold T1 at h1;obtain⟨A',c',he,h2,h3,h1⟩:=h1;injection he with a1 a2 a3
 subst a1 a2 a3
 by_cases h0:j-i=0
 .rw[h0,List.take_zero];exact⟨[],by unfold T1;exact⟨_,_,rfl,by omega,by omega,.inl ⟨rfl,rfl,rfl⟩⟩,by simp⟩
 .rcases h1 with⟨hz,_⟩|⟨hp,b,off,us,bs',rfl,rfl,hb,hca,ht⟩
  .omega
  .rw[if_neg (by omega)];have hx:xs=xs.take i++((xs.drop i).take (j-i)++(xs.drop i).drop (j-i)):=by rw[List.take_append_drop,List.take_append_drop]
   rw[hx,List.flatMap_append,List.flatMap_append]at ht;obtain⟨b1,b2,u1,u2,rfl,rfl,t1,t2⟩:=TN.append.1 ht;obtain⟨b3,b4,u3,u4,rfl,rfl,t3,t4⟩:=TN.append.1 t2
   have hu1:u1.length=i*e.size:=by
    rw[t1.length,List.length_flatMap];simp only[aN,List.map_const',List.sum_replicate_nat,List.length_take];rw[Nat.min_eq_left (by omega)]
   refine⟨b::b3,by
    unfold T1;refine⟨_,_,rfl,by omega,by omega,.inr ⟨by omega,b,off+i*e.size,u3,b3,?_,rfl,hb,fun k u hk=> ?_,t3⟩⟩
    .simp[Addr.add_mid]
    .have:=hca (i*e.size+k) u (by
      rw[<-hu1,qL (by omega),Nat.add_sub_cancel_left,qM (qE.1 hk).1];exact hk)
     rw[Nat.add_assoc];exact this,fun k hk=>hF k (by simp only[List.mem_cons,qT]at hk |-;grind)⟩
theorem A9{e:U}{xs:List (El e)}{A:Option Addr}{m c:Nat}(h:dB cx.w0 cx.F0 (.sl xs.length (xs.flatMap (enc e))) (.slice A m c)){i:Nat}(hi:i<=xs.length):
  dB cx.w0 cx.F0 (.sl (List.length (xs.drop i)) ((xs.drop i).flatMap (enc e))) (.slice (if c=i then A else A.map (·.add (i*e.size))) (m-i) (c-i)):=by
 have:=uQ h (i:=i) (j:=xs.length) hi (Nat.le_refl _);rw[qN (by rw[List.length_drop];omega)]at this;obtain⟨hm,_⟩:=uP h;subst hm;exact this
theorem Ba{e:U}{xs:List (El e)}{A:Option Addr}{m c:Nat}(h:dB cx.w0 cx.F0 (.sl xs.length (xs.flatMap (enc e))) (.slice A m c)){j:Nat}(hj:j<=xs.length):
  dB cx.w0 cx.F0 (.sl (List.length (xs.take j)) ((xs.take j).flatMap (enc e))) (.slice (if c=0 then A else A.map (·.add (0*e.size))) j c):=by
 have:=uQ h (i:=0) (j:=j) (Nat.zero_le _) hj;rw[List.drop_zero]at this;exact this
theorem CF{x:Operand}{t:TypeId}{k:IntKind}{i:Int}(hx:a.eval x=.int k i):(execOp a.eval ⟨dst,.unOp .xor t x,ty,pos,aft,gd⟩).run P w=.ok (.value (.int k (bits .xor k (if k.signed then -1 else k.max) i))) w:=by
 simp only[execOp,hx];rfl
theorem iB{x:Value}(h:x.oneCell'=true):x.cells= #[x]:=by
 cases x<;>first|rfl|cases h
theorem pX{s:SV}{x:Value}(h:Den cx β s x)(hn:∀l,s≠.agg l):x.cells= #[x]:=by
 cases s<;>unfold Den at h
 case int=>subst h;rfl
 case bool=>subst h;rfl
 case raw=>rw[h.1];exact iB h.2
 case rsl=>obtain⟨A,c,rfl⟩:=h.slice;rfl
 case rp=>obtain⟨b,o,rfl,_⟩:=h;rfl
 case ptr=>obtain⟨b,_,rfl⟩:=h;rfl
 case sl=>obtain⟨_,A,n,c,rfl⟩:=h;rfl
 case ep=>obtain⟨b,z,m,c,_,_,rfl⟩:=h;rfl
 case agg l=>exact absurd rfl (hn l)
 case tup=>obtain⟨vs,rfl,_⟩:=h;rfl
 case fn=>obtain⟨vs,rfl,_⟩:=h;rfl
 case nh=>obtain⟨rfl,A,c,rfl,_⟩:=h;rfl
 case np=>obtain⟨b,o,c,_,rfl⟩:=h;rfl
 case mp=>obtain⟨_,r,rfl⟩:=h;rfl
 case nn=>obtain⟨_,A,n,c,rfl⟩:=h;rfl
 case sx=>obtain⟨b,z,m,c,o,c',_,_,rfl,_⟩:=h;rfl
 case un=>subst h;rfl
 case gd=>exact h.elim
theorem lS{s:SV}{x:Value}(h:Den cx β s x):∃us:aO,x.cells=us.toArray/\ah cx β (cellsOf s) us:=by
 cases s
 case agg l=>unfold Den at h;obtain⟨vs,rfl,h2⟩:=h;exact⟨vs,rfl,h2⟩
 all_goals exact⟨[x],by rw[pX h (by intro l e;cases e)],ah.one h⟩
theorem qm:∀{o:Nat} {l cs r:List SV},mV o l cs=some r->r=cs.take o++l++cs.drop (o+l.length)/\o+l.length<=cs.length
 |0,[],cs,r,h=>by unfold mV at h;injection h with h;subst h;simp
 |0,v::l,c::cs,r,h=>by
  unfold mV at h;split at h
  .rename_i q hq;injection h with h
   subst h;obtain⟨h1,h2⟩:=qm hq;simp only[List.take_zero,List.nil_append,Nat.zero_add,qI]at h1 h2 |-;exact⟨by rw[h1];simp,by omega⟩
  .cases h
 |o+1,l,c::cs,r,h=>by
  have h:(match mV o l cs with|some r=>some (c::r)|none=>none)=some r:=by
   cases l<;>(unfold mV at h;exact h)
  split at h
  .rename_i q hq;injection h with h
   subst h;obtain⟨h1,h2⟩:=qm hq;refine⟨?_,by simp;omega⟩;have e:o+1+l.length=(o+l.length)+1:=by omega
   rw[e,List.take_succ_cons,List.drop_succ_cons,h1];simp
  .cases h
 |0,v::l,[],r,h=>by unfold mV at h;cases h
 |o+1,[],[],r,h=>by unfold mV at h;cases h
 |o+1,v::l,[],r,h=>by unfold mV at h;cases h
theorem vo(E:bW cx β n a env)(hg:dz a g){m:Nat}{u:U}:∀{l:List (Nat×Operand)} {cs r:List SV} {cells:Array Value},xS env g m u l cs=some r->ah cx β cs cells.toList->
  ∃q,Instr.fill (((List.range m).map fun i=>(dJ i m u,uh i m u)).toArray[·]?) cells (l.map fun x=>(x.1,a.eval x.2))=some q/\ah cx β r q.toList
 |[],cs,r,cells,h,hd=>by
  unfold xS at h;injection h with h
  subst h;exact⟨cells,rfl,hd⟩
 |(i,x)::l,cs,r,cells,h,hd=>by
  unfold xS at h;cases hx:evs env g x with
  |none=>rw[hx]at h;cases h
  |some v=>
   rw[hx]at h;simp only at h;cases hb:(Nat.blt i m&&Nat.beq (cellsOf v).length (uh i m u))with
   |false=>rw[hb]at h;cases h
   |true=>
    rw[hb]at h;simp only[qG]at h;rw[qD]at hb;have him:i<m:=by simpa using hb.1
    split at h
    .rename_i cs' hs;obtain⟨h1,h2⟩:=qm hs;obtain⟨y,h3,h4⟩:=aj E hg hx;obtain⟨us,h5,h6⟩:=lS h4;have hl:=h6.len;have hcl:=hd.len
     have hle:dJ i m u+us.length<=cells.size:=by
      rw[<-Array.length_toList,hcl,hl];exact h2
     have hz:(y.cells.zipIdx.foldl (fun cs (c,j)=>cs.setIfInBounds (dJ i m u+j) c) cells).toList=cells.toList.take (dJ i m u)++us++cells.toList.drop (dJ i m u+us.length):=by
      have:=foldl_set us 0 (dJ i m u) cells (by omega);rw[h5,<-Array.foldl_toList,Array.toList_zipIdx];simpa using this
     have hd2:ah cx β cs' (y.cells.zipIdx.foldl (fun cs (c,j)=>cs.setIfInBounds (dJ i m u+j) c) cells).toList:=by
      rw[hz,h1,<-hl];exact((hd.take _).app h6).app (hd.drop _)
     obtain⟨q,k1,k2⟩:=vo E hg h hd2;refine⟨q,?_,k2⟩;rw[List.map_cons];unfold Instr.fill;simp only[List.getElem?_toArray,qY,List.getElem?_range him,Option.map_some];rw[if_neg (by rw[h3,h5];have:=ak hb.2;simp;omega),h3];simpa using k1
    .cases h
theorem uy(H:Inv cx.w0 cx.F0 w (rs.map (Tok.res cx β)++fr)){q:Nat}{r:BK}(h:mapOf rs q=some r):
  u1 r.u=true/\∃(b:Nat) (es:List MapEntry) (cl:Nat),β q=.map (some b)/\w.heap[b]? =some (.map es.toArray cl)/\es.map (fun e=>(e.key,e.val))=r.kv.map (fun x=>(Value.int .i64 x.1,jI r.u x.2)):=by
 obtain⟨i,hi⟩:=wN h
 obtain⟨F,h1,b,es,cl,h2,h3,h4,h5⟩:=H.mem i (r:=Tok.res cx β (.map q r.u r.kv)) (by
  rw[qM (by simpa using(qE.1 hi).1),qY,hi];rfl)
 exact⟨h1,b,es,cl,h2,h4,h5⟩
theorem vV(H:Inv cx.w0 cx.F0 w (rs.map (Tok.res cx β)++fr)){q:Nat}{kv:List ((Int×Int)×Bool)}(h:bR rs q=some kv):
  ∃(b:Nat) (es:List MapEntry) (cl:Nat),β q=.map (some b)/\w.heap[b]? =some (.map es.toArray cl)/\es.map (fun e=>(e.key,e.val))=kv.map (fun x=>(bN x.1,Value.bool x.2)):=by
 obtain⟨i,hi⟩:=uK h
 obtain⟨F,b,es,cl,h2,h3,h4,h5⟩:=H.mem i (r:=Tok.res cx β (.pmap q kv)) (by
  rw[qM (by simpa using(qE.1 hi).1),qY,hi];rfl)
 exact⟨b,es,cl,h2,h4,h5⟩
theorem rQ{i j:Int}{v:Value}(h:Den cx β (.agg [.int .i64 i,.int .i64 j]) v):v=bN (i,j):=by
 unfold Den at h;obtain⟨us,rfl,h⟩:=h;unfold ah at h;obtain⟨v1,vs1,rfl,h1,h⟩:=h;unfold ah at h;obtain⟨v2,vs2,rfl,h2,h⟩:=h;unfold ah at h;subst h;rw[ay h1,ay h2];rfl
theorem iQ{u:U}(d:El u)(i:Int):∀{es:List MapEntry} {kv:List (Int×El u)} {n:Nat},es.map (fun e=>(e.key,e.val))=kv.map (fun x=>(Value.int .i64 x.1,jI u x.2))->
  (∃j,Instr.findNow (.int .i64) (.int .i64 i) es n=some (some (j,jI u (iJ d kv i))))\/(Instr.findNow (.int .i64) (.int .i64 i) es n=some none/\iJ d kv i=d)
 |[],[],n,_=>.inr ⟨rfl,rfl⟩
 |[],_::_,n,h=>by simp at h
 |_::_,[],n,h=>by simp at h
 |e::es,(k,x)::kv,n,h=>by
  simp only[List.map_cons,List.cons.injEq,Prod.mk.injEq]at h;obtain⟨⟨h1,h2⟩,h3⟩:=h;unfold Instr.findNow iJ;rw[h1];simp only[Instr.sameNow,if_true];cases hk:(i==k)with
  |true=>
   have:=eq_of_beq hk;subst this;simp only[BEq.rfl,qG];exact .inl ⟨n,by rw[h2]⟩
  |false=>
   have:(k==i)=false:=by rw[beq_eq_false_iff_ne]at hk |-;exact fun e=>hk e.symm
   rw[this];simp only[qH];exact iQ d i h3
theorem sS{x y:Operand}{t k e b:Nat}{es:List MapEntry}{cl:Nat}{u:U}{kv:List (Int×El u)}{i:Int}{inf:TypeInfo}(hx:a.eval x=.map (some b))(hy:a.eval y=.int .i64 i)(ht:P.underlying t=some (.map k e))(hk:P.underlying k=some (.int .i64))(hi:P.info? e=some inf)(hz:inf.zero=some (jI u (dflt u)))
  (hb:w.heap[b]? =some (.map es.toArray cl)) (he:es.map (fun e=>(e.key,e.val))=kv.map (fun x=>(Value.int .i64 x.1,jI u x.2))):(execOp a.eval ⟨dst,.lookup t x y false,ty,pos,aft,gd⟩).run P w=.ok (.value (jI u (iJ (dflt u) kv i))) w:=by
 have hg:(getObj b).run P w=.ok (.map es.toArray cl) w:=by simp[getObj,Sem.run,hb]
 have hc:∀em:Bool,(Instr.checkKey em 10000 k (.int .i64 i)).run P w=.ok () w:=fun em=>by
  unfold Instr.checkKey;simp[run_underlying hk]
 have hzv:(zeroValue e).run P w=.ok (jI u (dflt u)) w:=by simp[zeroValue,typeInfo,hi,hz]
 rcases iQ (dflt u) i (n:=0) he with⟨j,h1⟩|⟨h1,h2⟩
 .simp[execOp,hx,hy,Instr.lookup,run_underlying ht,hg,hc,Instr.findKey,run_underlying hk,h1]
 .simp[execOp,hx,hy,Instr.lookup,run_underlying ht,hg,hc,Instr.findKey,run_underlying hk,h1,hzv,h2]
theorem lX{u:U}(i:Int):∀{es:List MapEntry} {kv:List (Int×El u)} {n:Nat},es.map (fun e=>(e.key,e.val))=kv.map (fun x=>(Value.int .i64 x.1,jI u x.2))->
  (∃j v,Instr.findNow (.int .i64) (.int .i64 i) es n=some (some (j,v))/\l6 kv i=true)\/(Instr.findNow (.int .i64) (.int .i64 i) es n=some none/\l6 kv i=false)
 |[],[],n,_=>.inr ⟨rfl,rfl⟩
 |[],_::_,n,h=>by simp at h
 |_::_,[],n,h=>by simp at h
 |e::es,(k,x)::kv,n,h=>by
  simp only[List.map_cons,List.cons.injEq,Prod.mk.injEq]at h;obtain⟨⟨h1,h2⟩,h3⟩:=h;unfold Instr.findNow l6;rw[h1];simp only[Instr.sameNow,if_true];cases hk:(i==k)with
  |true=>
   have:=eq_of_beq hk;subst this;simp only[BEq.rfl,qG];exact .inl ⟨n,e.val,rfl,by first|rfl|trivial⟩
  |false=>
   have:(k==i)=false:=by rw[beq_eq_false_iff_ne]at hk |-;exact fun e=>hk e.symm
   rw[this];simp only[qH];exact lX i h3
theorem oz{x y:Operand}{t k e b:Nat}{es:List MapEntry}{cl:Nat}{u:U}{kv:List (Int×El u)}{i:Int}{inf:TypeInfo}(hx:a.eval x=.map (some b))(hy:a.eval y=.int .i64 i)(ht:P.underlying t=some (.map k e))(hk:P.underlying k=some (.int .i64))(hi:P.info? e=some inf)(hz:inf.zero=some (jI u (dflt u)))
  (hb:w.heap[b]? =some (.map es.toArray cl)) (he:es.map (fun e=>(e.key,e.val))=kv.map (fun x=>(Value.int .i64 x.1,jI u x.2))):(execOp a.eval ⟨dst,.lookup t x y true,ty,pos,aft,gd⟩).run P w=.ok (.value (.tuple #[jI u (iJ (dflt u) kv i),.bool (l6 kv i)])) w:=by
 have hg:(getObj b).run P w=.ok (.map es.toArray cl) w:=by simp[getObj,Sem.run,hb]
 have hc:∀em:Bool,(Instr.checkKey em 10000 k (.int .i64 i)).run P w=.ok () w:=fun em=>by
  unfold Instr.checkKey;simp[run_underlying hk]
 have hzv:(zeroValue e).run P w=.ok (jI u (dflt u)) w:=by simp[zeroValue,typeInfo,hi,hz]
 rcases iQ (dflt u) i (n:=0) he with⟨j,h1⟩|⟨h1,h2⟩<;>rcases lX i (n:=0) he with⟨j',v',h3,h4⟩|⟨h3,h4⟩
 .simp[execOp,hx,hy,Instr.lookup,run_underlying ht,hg,hc,Instr.findKey,run_underlying hk,h1,h4]
 .rw[h1]at h3;cases h3
 .rw[h1]at h3;cases h3
 .simp[execOp,hx,hy,Instr.lookup,run_underlying ht,hg,hc,Instr.findKey,run_underlying hk,h1,hzv,h2,h4]
theorem Cz{x:Operand}{t:Nat}{b:ByteArray}(hx:a.eval x=.string b)(ht:P.underlying t=some .string):
  (execOp a.eval ⟨dst,.call { callee:=.builtin .len,args:= #[x],argTypes:= #[t]},ty,pos,aft,gd⟩).run P w=.ok (.value (.int .i64 b.size)) w:=by
 simp[execOp,resolve,invoke,builtin,hx,Builtin.len_,run_underlying ht,goInt]
theorem zl{x:Operand}{t k e b:Nat}{es:List MapEntry}{cl:Nat}(hx:a.eval x=.map (some b))(ht:P.underlying t=some (.map k e))(hb:w.heap[b]? =some (.map es.toArray cl)):
  (execOp a.eval ⟨dst,.call { callee:=.builtin .len,args:= #[x],argTypes:= #[t]},ty,pos,aft,gd⟩).run P w=.ok (.value (.int .i64 es.length)) w:=by
 have hg:(getObj b).run P w=.ok (.map es.toArray cl) w:=by simp[getObj,Sem.run,hb]
 simp[execOp,resolve,invoke,builtin,hx,Builtin.len_,run_underlying ht,hg,goInt]
theorem DV{x y:Operand}{k k2:IntKind}{i j:Int}{tys:Array TypeId}(hx:a.eval x=.int k i)(hy:a.eval y=.int k2 j):
  (execOp a.eval ⟨dst,.call { callee:=.builtin .max,args:= #[x,y],argTypes:=tys},ty,pos,aft,gd⟩).run P w=.ok (.value (.int k (max i j))) w:=by
 have e:(if j>i then j else i)=max i j:=by split<;>omega
 simp[execOp,resolve,invoke,builtin,hx,hy,Builtin.max_,Builtin.max2,e]
theorem DW{x y:Operand}{k k2:IntKind}{i j:Int}{tys:Array TypeId}(hx:a.eval x=.int k i)(hy:a.eval y=.int k2 j):
  (execOp a.eval ⟨dst,.call { callee:=.builtin .min,args:= #[x,y],argTypes:=tys},ty,pos,aft,gd⟩).run P w=.ok (.value (.int k (min i j))) w:=by
 have e:(if j<i then j else i)=min i j:=by split<;>omega
 simp[execOp,resolve,invoke,builtin,hx,hy,Builtin.min_,Builtin.min2,e]
theorem Cq(hti:bE P ti=true)(E:bW cx β n a env)(hg:dz a g)(H:Inv cx.w0 cx.F0 w (rs.map (Tok.res cx β)++fr)){op:Op}(h:nH (jc ti env rs g op) v):
  ∃val,(execOp a.eval ⟨dst,op,ty,pos,aft,gd⟩).run P w=.ok (.value val) w/\Den cx β v val:=by
 cases op
 case move x=>
  unfold jc at h;cases hx:evs env g x with
  |none=>simp only[hx]at h;exact h.no.elim
  |some s=>
   simp only[hx]at h;have:=h.ok;subst this;obtain⟨y,h1,h2⟩:=aj E hg hx;exact⟨y,Cw h1,h2⟩
 case assign x=>
  unfold jc at h;cases hx:evs env g x with
  |none=>simp only[hx]at h;exact h.no.elim
  |some s=>
   simp only[hx]at h;have:=h.ok;subst this;obtain⟨y,h1,h2⟩:=aj E hg hx;exact⟨y,zf h1,h2⟩
 case nilCheck x=>
  unfold jc at h;simp only at h;split at h
  .rename_i u z hx;have:=h.ok;subst this;obtain⟨y,h1,h2⟩:=aj E hg hx;have h2':=h2;unfold Den at h2';obtain⟨b,o,rfl,h3⟩:=h2';exact⟨_,vX h1,h2⟩
  .rename_i k o hx;have:=h.ok;subst this;obtain⟨y,h1,h2⟩:=aj E hg hx;have h2':=h2;unfold Den at h2';obtain⟨b,hb,rfl⟩:=h2';exact⟨_,vX h1,h2⟩
  .rename_i k s i o hx;have:=h.ok;subst this;obtain⟨y,h1,h2⟩:=aj E hg hx;have h2':=h2;unfold Den at h2';obtain⟨b,z,m,c,hb,him,rfl⟩:=h2';exact⟨_,vX h1,h2⟩
  .rename_i hx;have:=h.ok;subst this;obtain⟨y,h1,h2⟩:=aj E hg hx;have h2':=h2;unfold Den at h2';obtain⟨b,o,c,hb,rfl⟩:=h2';exact⟨_,vX h1,h2⟩
  .exact h.no.elim
 case fieldAddr s x i=>
  unfold jc at h;simp only at h;split at h
  .rename_i m k u' zz u z hlk hx;obtain⟨h1,h2,h3,h4⟩:=gF hti hlk;obtain⟨y,h5,h6⟩:=aj E hg hx;unfold Den at h6;obtain⟨b,o,rfl,hp⟩:=h6;cases hb:Nat.beq (dJ i m u) (dJ i m u')with
   |false=>rw[hb]at h;exact h.no.elim
   |true=>
    rw[hb]at h;simp only[qG]at h;split at h
    .rename_i u2 x2 hf;have:=h.ok;subst this;obtain⟨h7,d1,d2,h8,h9⟩:=pF _ _ _ _ hf;rw[h8]at hp;refine⟨_,AP h5 (h4 i h7) rfl,?_⟩;unfold Den;refine⟨b,_,rfl,?_⟩;rw[<-ak hb,<-h9];exact hp.append.2.append.1
    .exact h.no.elim
  .rename_i m k u zz h' o hlk hx;obtain⟨h1,h2,h3,h4⟩:=gF hti hlk;cases hb:Nat.blt i m with
   |false=>rw[hb]at h;exact h.no.elim
   |true=>
    rw[hb]at h;have:=h.ok;subst this;obtain⟨y,h5,h6⟩:=aj E hg hx;unfold Den at h6;obtain⟨b,hb',rfl⟩:=h6;exact⟨_,AP h5 (h4 i (by simpa using hb)) rfl,by unfold Den;exact⟨b,hb',rfl⟩⟩
  .rename_i m k u zz h' s j o hlk hx;obtain⟨h1,h2,h3,h4⟩:=gF hti hlk;cases hb:Nat.blt i m with
   |false=>rw[hb]at h;exact h.no.elim
   |true=>
    rw[hb]at h;have:=h.ok;subst this;obtain⟨y,h5,h6⟩:=aj E hg hx;unfold Den at h6;obtain⟨b,z',mm,c,hb',him,rfl⟩:=h6;exact⟨_,AP h5 (h4 i (by simpa using hb)) rfl,by unfold Den;exact⟨b,z',mm,c,hb',him,by simp only[Nat.add_assoc]⟩⟩
  .rename_i m k u zz k0 o0 n0 hdr0 s0 q0 j0 hlk hx;obtain⟨h1,h2,h3,h4⟩:=gF hti hlk;cases hb:Nat.blt i m with
   |false=>rw[hb]at h;exact h.no.elim
   |true=>
    rw[hb]at h;have:=h.ok;subst this;obtain⟨y,h5,h6⟩:=aj E hg hx;unfold Den at h6;obtain⟨b,oo,c,hb',rfl⟩:=h6;exact⟨_,AP h5 (h4 i (by simpa using hb)) rfl,by unfold Den;exact⟨b,oo,c,hb',by rw[Nat.add_assoc]⟩⟩
  .exact h.no.elim
 case load t x=>
  unfold jc at h;cases hx:evs env g x with
  |none=>simp only[hx]at h;exact h.no.elim
  |some s=>
   simp only[hx]at h;obtain⟨y,h1,h2⟩:=aj E hg hx;exact Ay hti H h1 h2 h
 case binOp o t x y u=>
  unfold jc at h;simp only at h;split at h
  .rename_i b1 b2 hx hy;obtain⟨v1,h1,d1⟩:=aj E hg hx;obtain⟨v2,h2,d2⟩:=aj E hg hy;rw[bL d1]at h1;rw[bL d2]at h2
   have hgu:∀w:World,(eqGuard o t x y (.bool b1) (.bool b2)).run P w=.ok () w:=fun w=>by
    unfold eqGuard;split<;>rfl
   split at h
   .rename_i hlk;have h3:=gD hti hlk;unfold eX at h3;simp only[qD]at h3
    have h4:P.underlying t=some .bool:=by
     have:=h3.2;split at this<;>simp_all
    have:=h.ok;subst this;exact⟨.bool (b1==b2),by simp only[execOp,h1,h2,Sem.run_bind,hgu,run_eql_bool w t b1 b2 h4,Result.andThen_ok,Sem.run_pure],by unfold Den;rfl⟩
   .rename_i hlk;have h3:=gD hti hlk;unfold eX at h3;simp only[qD]at h3
    have h4:P.underlying t=some .bool:=by
     have:=h3.2;split at this<;>simp_all
    have:=h.ok;subst this;exact⟨.bool (!(b1==b2)),by simp only[execOp,h1,h2,Sem.run_bind,hgu,run_neq_bool w t b1 b2 h4,Result.andThen_ok,Sem.run_pure],by unfold Den;rfl⟩
   .exact h.no.elim
  .rename_i hx hy;obtain⟨v1,h1,d1⟩:=aj E hg hx;obtain⟨v2,h2,d2⟩:=aj E hg hy;split at h
   .rename_i hlk;obtain⟨_,hel,_⟩:=bV hti hlk;have:=h.ok;subst this;unfold Den at d1 d2;obtain⟨rfl,_⟩:=d1;obtain⟨rfl,_⟩:=d2;unfold bg at hel;split at hel
    .rename_i e' hu;exact⟨_,Cy h1 h2 hu,by unfold Den;rfl⟩
    .cases hel
   .exact h.no.elim
  .rename_i hx hy;obtain⟨v1,h1,d1⟩:=aj E hg hx;obtain⟨v2,h2,d2⟩:=aj E hg hy;split at h
   .rename_i hlk;obtain⟨_,hel,_⟩:=bV hti hlk;have:=h.ok;subst this;unfold Den at d1 d2;obtain⟨_,A,n',c',rfl⟩:=d1;obtain⟨rfl,_⟩:=d2;unfold bg at hel;split at hel
    .rename_i e' hu;exact⟨_,CB h1 h2 hu,by unfold Den;rfl⟩
    .cases hel
   .exact h.no.elim
  .rename_i s1 s2 hne1 hne2 hne3 hx hy;obtain⟨v1,h1,d1⟩:=aj E hg hx;obtain⟨v2,h2,d2⟩:=aj E hg hy;exact BR h1 d1 h2 d2 h
  .exact h.no.elim
 case unOp o t x=>
  cases o<;>unfold jc at h<;>simp only at h<;>first|exact h.no.elim|skip
  all_goals
   split at h
   .rename_i hx;obtain⟨v1,h1,d1⟩:=aj E hg hx;have:=h.ok;subst this
    first
     |(have:=bL d1;subst this;exact⟨_,DZ h1 rfl,by unfold Den;rfl⟩)
     |(have:=ay d1;subst this;exact⟨_,DY h1 rfl,by unfold Den;rfl⟩)
     |(have:=ay d1;subst this;exact⟨_,CF h1,by unfold Den;rfl⟩)
   .exact h.no.elim
 case indexAddr t x y=>
  unfold jc at h;simp only at h;split at h
  .rename_i ee ss u e xs i hlk hx hy;obtain⟨h1,h2,h3⟩:=bV hti hlk;obtain⟨v1,e1,d1⟩:=aj E hg hx;obtain⟨v2,e2,d2⟩:=aj E hg hy;cases hb:Nat.beq u.size e.size with
   |false=>rw[hb]at h;exact h.no.elim
   |true=>
    rw[hb]at h;simp only[qG]at h;obtain⟨⟨h4,h5⟩,h6⟩:=h.vc;subst h6;have:=ay d2;subst this;unfold Den at d1;obtain⟨A,c,rfl⟩:=d1.slice;obtain⟨b,off,rfl,hm,hp⟩:=Am d1 h4 h5;refine⟨_,zi (k:=i.toNat) e1 e2 (by omega) h2 (by omega) rfl,?_⟩;unfold Den;exact⟨b,_,rfl,by rw[<-h3,ak hb];exact hp⟩
  .rename_i ee ss uu k0 o0 n0 hdr0 i hlk hx hy;obtain⟨h1,h2,h3⟩:=bV hti hlk;obtain⟨v1,e1,d1⟩:=aj E hg hx;obtain⟨v2,e2,d2⟩:=aj E hg hy;obtain⟨⟨h4,h5⟩,h6⟩:=h.vc;subst h6;have:=ay d2;subst this;unfold Den at d1;obtain⟨rfl,A,c,rfl,hp⟩:=d1;obtain⟨b,off,rfl⟩:=hp (by omega);refine⟨_,zi (k:=i.toNat) e1 e2 (by omega) h2 (by omega) rfl,?_⟩;unfold Den;exact⟨b,off,c,rfl,rfl⟩
  .rename_i ee ss uu h' i hlk hx hy;obtain⟨h1,h2,h3⟩:=bV hti hlk;obtain⟨v1,e1,d1⟩:=aj E hg hx;obtain⟨v2,e2,d2⟩:=aj E hg hy;split at h
   .rename_i t' s' u xs us0 hrow;cases hb:Nat.beq ss s' with
    |false=>rw[hb]at h;exact h.no.elim
    |true=>
     rw[hb]at h;simp only[qG]at h;obtain⟨⟨h4,h5⟩,h6⟩:=h.vc;subst h6;have:=ay d2;subst this;unfold Den at d1;obtain⟨d1,_⟩:=d1;subst d1;obtain⟨k1,A,c,bs,k2,k3,k4⟩:=kN H hrow;simp only at k1 k2 k4;have hlt:i.toNat<xs.length:=by omega
     obtain⟨b,z,rfl⟩:=k4 (by omega);refine⟨_,zi (k:=i.toNat) (e1.trans k2) e2 (by omega) h2 hlt rfl,?_⟩;unfold Den;exact⟨b,z,_,c,k2,hlt,by simp⟩
   .split at h
    .rename_i t' s' u xs hrow;cases hb:Nat.beq ss s' with
     |false=>rw[hb]at h;exact h.no.elim
     |true=>
      rw[hb]at h;simp only[qG]at h;obtain⟨⟨h4,h5⟩,h6⟩:=h.vc;subst h6;have:=ay d2;subst this;unfold Den at d1;obtain⟨d1,_⟩:=d1;subst d1;have hlt:i.toNat<xs.length:=by omega
      obtain⟨k1,b,c,us,k2,_⟩:=rP H hrow hlt;simp only at k2;refine⟨_,zi (k:=i.toNat) (e1.trans k2) e2 (by omega) h2 hlt rfl,?_⟩;unfold Den;exact⟨b,0,_,c,k2,hlt,by simp⟩
    .exact h.no.elim
  .rename_i ee ss uu h' s' lo n i hlk hx hy;obtain⟨h1,h2,h3⟩:=bV hti hlk;obtain⟨v1,e1,d1⟩:=aj E hg hx;obtain⟨v2,e2,d2⟩:=aj E hg hy;cases hb:Nat.beq ss s' with
   |false=>rw[hb]at h;exact h.no.elim
   |true=>
    rw[hb]at h;simp only[qG]at h;obtain⟨⟨h4,h5⟩,h6⟩:=h.vc;subst h6;have hs:=ak hb;subst hs;have:=ay d2;subst this;unfold Den at d1;obtain⟨b,z,m,c,o,c',k1,k2,rfl,ko,_⟩:=d1;have ko:=ko (by omega);subst ko;refine⟨_,zi (k:=i.toNat) e1 e2 (by omega) h2 (by omega) rfl,?_⟩;unfold Den;have ht:((lo:Int)+i).toNat=lo+i.toNat:=by omega
    exact⟨b,z,m,c,k1,by omega,by rw[ht,Nat.add_mul,Nat.add_assoc];rfl⟩
  .exact h.no.elim
 case slice t x y z1 z2=>
  match y,z1,z2,h with
  |some y,none,none,h=>
   unfold jc at h;simp only at h;split at h
   .rename_i ee ss uu h' i hlk hx hy;obtain⟨h1,h2,h3⟩:=bV hti hlk;obtain⟨v1,e1,d1⟩:=aj E hg hx;obtain⟨v2,e2,d2⟩:=aj E hg hy;split at h
    .rename_i t' s' u xs us0 hrow;cases hb:Nat.beq ss s' with
     |false=>rw[hb]at h;exact h.no.elim
     |true=>
      rw[hb]at h;simp only[qG]at h;obtain⟨⟨h4,h5,h7⟩,h6⟩:=h.vc;subst h6;have:=ay d2;subst this;unfold Den at d1;obtain⟨d1,_⟩:=d1;subst d1;obtain⟨b,z,c,k2,k3⟩:=zA H hrow (by show 0<xs.length;omega);simp only at k2 k3;have hi:i=((i.toNat:Nat):Int):=by omega
      refine⟨_,jY (i:=i.toNat) (e1.trans k2) (e2.trans (by rw[<-hi])) h2 (by omega) (by omega),?_⟩;unfold Den;exact⟨b,z,xs.length,c,_,c-i.toNat,k2,by omega,rfl,fun hn=>if_neg (by omega),by omega⟩
    .exact h.no.elim
   .rename_i ee ss uu h' s1 lo n i hlk hx hy;obtain⟨h1,h2,h3⟩:=bV hti hlk;obtain⟨v1,e1,d1⟩:=aj E hg hx;obtain⟨v2,e2,d2⟩:=aj E hg hy;cases hb:Nat.beq ss s1 with
    |false=>rw[hb]at h;exact h.no.elim
    |true=>
     rw[hb]at h;simp only[qG]at h;obtain⟨⟨h4,h5⟩,h6⟩:=h.vc;subst h6;have:=ak hb;subst this;have:=ay d2;subst this;unfold Den at d1;obtain⟨b,z,m,c,o,c',k2,k3,rfl,k4,k5⟩:=d1;have hi:i=((i.toNat:Nat):Int):=by omega
     refine⟨_,jY (i:=i.toNat) e1 (e2.trans (by rw[<-hi])) h2 (by omega) k5,?_⟩;unfold Den;refine⟨b,z,m,c,_,c'-i.toNat,k2,by omega,rfl,fun hn=> ?_,by omega⟩;rw[if_neg (by omega),k4 (by omega),Nat.add_mul,Nat.add_assoc]
   .rename_i ee ss uu e xs i hlk hx hy;obtain⟨h1,h2,h3⟩:=bV hti hlk;obtain⟨v1,e1,d1⟩:=aj E hg hx;obtain⟨v2,e2,d2⟩:=aj E hg hy;cases hb:Nat.beq ss e.size with
    |false=>rw[hb]at h;exact h.no.elim
    |true=>
     rw[hb]at h;simp only[qG]at h;obtain⟨⟨h4,h5⟩,h6⟩:=h.vc;subst h6;have:=ak hb;subst this;have:=ay d2;subst this;unfold Den at d1;obtain⟨A,c,rfl⟩:=d1.slice;have hi:i=((i.toNat:Nat):Int):=by omega
     refine⟨_,wZ (i:=i.toNat) e1 (e2.trans (by rw[<-hi])) h2 (by omega),?_⟩;unfold Den;exact A9 d1 (by omega)
   .exact h.no.elim
  |none,_,_,h=>unfold jc at h;exact h.no.elim
  |some y,some z,none,h=>
   unfold jc at h;simp only at h;split at h
   .rename_i ee ss uu e xs i j hlk hx hy hz;obtain⟨h1,h2,h3⟩:=bV hti hlk;obtain⟨v1,e1,d1⟩:=aj E hg hx;obtain⟨v2,e2,d2⟩:=aj E hg hy;obtain⟨v3,e3,d3⟩:=aj E hg hz;cases hb:Nat.beq ss e.size with
    |false=>rw[hb]at h;exact h.no.elim
    |true=>
     rw[hb]at h;simp only[qG]at h;obtain⟨⟨h4,h5,h5'⟩,h6⟩:=h.vc;subst h6;have:=ak hb;subst this;have:=ay d2;subst this;have:=ay d3;subst this;unfold Den at d1;obtain⟨A,c,rfl⟩:=d1.slice;have hc:=uP d1;have hi:i=((i.toNat:Nat):Int):=by omega
     have hj:j=((j.toNat:Nat):Int):=by omega
     refine⟨_,zo (i:=i.toNat) (j:=j.toNat) e1 (e2.trans (by rw[<-hi])) (e3.trans (by rw[<-hj])) h2 (by omega) (by omega),?_⟩;unfold Den;exact uQ d1 (by omega) (by omega)
   .exact h.no.elim
  |some _,some _,some _,h=>unfold jc at h;exact h.no.elim
  |some _,none,some _,h=>unfold jc at h;exact h.no.elim
 case build t ps=>
  unfold jc at h;simp only at h;split at h
  .rename_i m k u zs hlk;split at h
   .rename_i l hb;have:=h.ok;subst this;obtain⟨h1,_,h2⟩:=iG hti hlk;obtain⟨h3,h4⟩:=lV (cx:=cx) (β:=β) h1;have hpl:=D9 hti hlk;unfold zeroOf at h2;cases hq:P.info? t with
    |none=>rw[hq]at h2;simp at h2
    |some it=>
     rw[hq]at h2;simp only[Option.bind_some]at h2;cases hz:it.zero with
     |none=>rw[hz]at h2;simp at h2
     |some z=>
      rw[hz]at h2;simp only[Option.map_some,Option.some.injEq]at h2;rw[<-h2]at h3;obtain⟨q,k1,k2⟩:=vo (cells:=z.cells) E hg hb h3
      have hbt:P.built t (ps.map fun(i,x)=>(i,a.eval x)).toList=some q:=by
       unfold placesOf at hpl;unfold Program.built;split at hpl
       .rename_i fields hu;rw[hq,hu];simp only[hz,hpl];rw[Array.toList_map];exact k1
       .cases hpl
      refine⟨.agg q,AO rfl (run_build w t _ q hbt),?_⟩;unfold Den;exact⟨q.toList,by simp,k2⟩
   .exact h.no.elim
  .exact h.no.elim
 case extract x i=>
  unfold jc at h;simp only at h;split at h
  .rename_i l hx;obtain⟨v1,e1,d1⟩:=aj E hg hx;unfold Den at d1;obtain⟨vs,rfl,d1⟩:=d1;split at h
   .rename_i s hs;have:=h.ok;subst this;obtain⟨y,h1,h2⟩:=d1.get hs;exact⟨y,DU e1 h1,h2⟩
   .exact h.no.elim
  .exact h.no.elim
 case pick c x y=>
  cases c with
  |tmp c=>
   unfold jc at h;simp only at h;split at h
   .rename_i b hl;obtain⟨v0,hv0,hd0⟩:=Ar E hg hl;have hb0:v0=.bool b:=bL hd0;subst hb0
    have hc0:a.eval (.tmp c)=.bool b:=by
     show a.tmps.getD c undef=_;rw[Array.getD_eq_getD_getElem?,hv0];rfl
    split at h
    .rename_i s1 s2 hx hy;split at h
     .rename_i r hp;have:=h.ok;subst this;cases b with
      |true=>
       obtain⟨v1,e1,d1⟩:=vD E hg (fun d b hh=>by injection hh with hh;injection hh with h1 h2;subst h1 h2;exact hv0) hx;refine⟨v1,zn hc0 e1,?_⟩;unfold uJ at hp;split at hp<;>first|(injection hp with hp;subst hp;exact d1)|cases hp
      |false=>
       obtain⟨v1,e1,d1⟩:=vD E hg (fun d b hh=>by injection hh with hh;injection hh with h1 h2;subst h1 h2;exact hv0) hy;refine⟨v1,zm hc0 e1,?_⟩;unfold uJ at hp;split at hp<;>first|(injection hp with hp;subst hp;exact d1)|cases hp
     .exact h.no.elim
    .exact h.no.elim
   .exact h.no.elim
  |const _|global _|func _=>unfold jc at h;exact h.no.elim
 case call c=>
  obtain⟨ce,ar,tys⟩:=c;unfold jc at h;simp only at h;split at h
  .rename_i x t h1 h2;split at h
   .rename_i ee ss u e xs hlk hx;obtain⟨h3,h4,h5⟩:=bV hti hlk;obtain⟨v1,e1,d1⟩:=aj E hg hx;have:=h.ok;subst this;unfold Den at d1;obtain⟨A,c,hs⟩:=d1.slice;subst hs;have har:ar= #[x]:=by simpa using congrArg List.toArray h1
    have hty:tys= #[t]:=by simpa using congrArg List.toArray h2
    subst har hty;exact⟨_,ow e1 h4,by unfold Den;rfl⟩
   .rename_i ee ss uu h' hlk hx;obtain⟨h3,h4,h5⟩:=bV hti hlk;obtain⟨v1,e1,d1⟩:=aj E hg hx;split at h
    .rename_i t' s' u xs us0 hrow;have:=h.ok;subst this;unfold Den at d1;obtain⟨d1,_⟩:=d1;obtain⟨k1,A,c,bs,k2,k3,k4⟩:=kN H hrow;simp only at k2;rw[k2]at d1;subst d1;have har:ar= #[x]:=by simpa using congrArg List.toArray h1
     have hty:tys= #[t]:=by simpa using congrArg List.toArray h2
     subst har hty;exact⟨_,ow e1 h4,by unfold Den;rfl⟩
    .split at h
     .rename_i t' s' u xs hrow;have:=h.ok;subst this;unfold Den at d1;obtain⟨d1,_⟩:=d1;obtain⟨k1,A,c,k2⟩:=xX H hrow;simp only at k2;rw[k2]at d1;subst d1;have har:ar= #[x]:=by simpa using congrArg List.toArray h1
      have hty:tys= #[t]:=by simpa using congrArg List.toArray h2
      subst har hty;exact⟨_,ow e1 h4,by unfold Den;rfl⟩
     .exact h.no.elim
   .rename_i ee ss uu hlk hx;obtain⟨h3,h4,h5⟩:=bV hti hlk;obtain⟨v1,e1,d1⟩:=aj E hg hx;have:=h.ok;subst this;unfold Den at d1;obtain⟨d1,_⟩:=d1;subst d1;have har:ar= #[x]:=by simpa using congrArg List.toArray h1
    have hty:tys= #[t]:=by simpa using congrArg List.toArray h2
    subst har hty;exact⟨_,ow e1 h4,by unfold Den;rfl⟩
   .rename_i hlk hx;obtain⟨h3,h4,h5⟩:=bV hti hlk;obtain⟨v1,e1,d1⟩:=aj E hg hx;have:=h.ok;subst this;unfold Den at d1;obtain⟨rfl,A,c,rfl,_⟩:=d1;have har:ar= #[x]:=by simpa using congrArg List.toArray h1
    have hty:tys= #[t]:=by simpa using congrArg List.toArray h2
    subst har hty;exact⟨_,ow e1 h4,by unfold Den;rfl⟩
   .rename_i hlk hx;obtain⟨h3,h4,h5⟩:=bV hti hlk;obtain⟨v1,e1,d1⟩:=aj E hg hx;have:=h.ok;subst this;unfold Den at d1;obtain⟨b,z,m,c,o,c',_,_,rfl,_⟩:=d1;have har:ar= #[x]:=by simpa using congrArg List.toArray h1
    have hty:tys= #[t]:=by simpa using congrArg List.toArray h2
    subst har hty;exact⟨_,ow e1 h4,by unfold Den;rfl⟩
   .rename_i hlk hx;obtain⟨h3,k,e,h4,h5,_⟩:=tK hti hlk;obtain⟨v1,e1,d1⟩:=aj E hg hx;split at h
    .rename_i u' kv hm;have:=h.ok;subst this;obtain⟨_,b,es,cl,q1,q2,q3⟩:=uy H hm;unfold Den at d1;have har:ar= #[x]:=by simpa using congrArg List.toArray h1
     have hty:tys= #[t]:=by simpa using congrArg List.toArray h2
     subst har hty;have hl:es.length=kv.length:=by simpa using congrArg List.length q3
     exact⟨_,zl (e1.trans (d1.1.trans q1)) h4 q2,by unfold Den;rw[hl]⟩
    .exact h.no.elim
   .rename_i hlk hx;obtain⟨k,e,h4,h5,_⟩:=uV hti hlk;obtain⟨v1,e1,d1⟩:=aj E hg hx;split at h
    .rename_i kv hm;have:=h.ok;subst this;obtain⟨b,es,cl,q1,q2,q3⟩:=vV H hm;unfold Den at d1;have har:ar= #[x]:=by simpa using congrArg List.toArray h1
     have hty:tys= #[t]:=by simpa using congrArg List.toArray h2
     subst har hty;have hl:es.length=kv.length:=by simpa using congrArg List.length q3
     exact⟨_,zl (e1.trans (d1.1.trans q1)) h4 q2,by unfold Den;rw[hl]⟩
    .exact h.no.elim
   .rename_i z0 x0 hlk hx;obtain⟨v1,e1,d1⟩:=aj E hg hx;have:=h.ok;subst this;unfold Den at d1;have har:ar= #[x]:=by simpa using congrArg List.toArray h1
    have hty:tys= #[t]:=by simpa using congrArg List.toArray h2
    subst har hty;exact⟨_,Cz (e1.trans d1.1) (uW hti hlk),by unfold Den;rfl⟩
   .exact h.no.elim
  .rename_i x y h1;split at h
   .rename_i k i k2 j hx hy;have:=h.ok;subst this;obtain⟨v1,e1,d1⟩:=aj E hg hx;obtain⟨v2,e2,d2⟩:=aj E hg hy;rw[ay d1]at e1;rw[ay d2]at e2;have har:ar= #[x,y]:=by simpa using congrArg List.toArray h1
    subst har;exact⟨_,DV e1 e2,by unfold Den;rfl⟩
   .exact h.no.elim
  .rename_i x y h1;split at h
   .rename_i k i k2 j hx hy;have:=h.ok;subst this;obtain⟨v1,e1,d1⟩:=aj E hg hx;obtain⟨v2,e2,d2⟩:=aj E hg hy;rw[ay d1]at e1;rw[ay d2]at e2;have har:ar= #[x,y]:=by simpa using congrArg List.toArray h1
    subst har;exact⟨_,DW e1 e2,by unfold Den;rfl⟩
   .exact h.no.elim
  .exact h.no.elim
 case convert s d x=>
  unfold jc at h;simp only at h;split at h
  .rename_i z k z2 k2 i hs hdd hx;have:=h.ok;subst this;obtain⟨v1,h1,d1⟩:=aj E hg hx;rw[ay d1]at h1;refine⟨_,?_,by unfold Den;rfl⟩;have hr:=run_convert_int (P:=P) w s d k2 i (CJ hti hs) (by rw[qx hti hdd];simp[Program.intKind,qx hti hdd]);simp only[execOp,h1,Sem.run_bind,hr,Result.andThen_ok,Sem.run_pure,Program.intKind,qx hti hdd]
  .rename_i e sz u0 st q hs hdd hx;obtain⟨v1,h1,d1⟩:=aj E hg hx;obtain⟨_,hel,_⟩:=bV hti hs;split at h
   .rename_i t' s' u xs us0 z8 hrow hle
    by_cases hu:gH u (.int .u8)=true
    .rw[dif_pos hu]at h;have:=h.ok;subst this;have hue:=aB hu;subst hue;unfold Den at d1;obtain⟨d1,_⟩:=d1;subst d1;obtain⟨hus,A,c,bs,hb,ht,hpos⟩:=kN H hrow;simp only at hus hb ht hpos
     have hund:P.underlying s=some (.slice e):=by
      unfold bg at hel;split at hel
      .rename_i e' hu';cases hie:P.info? e' with
       |none=>rw[hie]at hel;simp at hel
       |some ii=>rw[hie]at hel;simp at hel;rw[hu',hel.1]
      .cases hel
     have he8:=qx hti hle;have hst:=uW hti hdd;refine⟨_,?_,by unfold Den;exact⟨rfl,rfl⟩⟩
     have hrun:(convert s d (β q)).run P w=.ok (.string (strOfNums xs)) w:=by
      rw[hb];rcases Nat.eq_zero_or_pos xs.length with h0|h0
      .have hx0:xs=[]:=List.eq_nil_of_length_eq_zero h0;subst hx0;cases A with
       |none=>exact run_convert_bytes_nil w s e hund he8 _ c d hst
       |some a=>
        obtain⟨ab,ao,asp⟩:=a;have:=run_convert_bytes_string (P:=P) w s d e (some ⟨ab,ao,asp⟩) 0 c hund he8 hst;have hl0:(loadCells ⟨ab,ao,asp⟩ 0).run P w=.ok (([]:List Int).map (Value.int .u8)).toArray w:=by simpa using run_loadCells_list (P:=P) w ⟨ab,ao,asp⟩ [] (by simp)
        refine Eq.trans this ?_;rw[run_bytesToString w _ 0 c [] hl0];rfl
      .obtain⟨b,z,rfl⟩:=hpos h0;refine run_convert_bytes_arg w s e hund he8 b z _ c xs rfl (fun i hi=> ?_) d hst;rw[hb]at ht;unfold T1 at ht;obtain⟨A',c',e1,_,_,ht⟩:=ht;rcases ht with⟨h9,_⟩|⟨_,b',off,us,bs',e2,_,_,hca,htn⟩
       .omega
       .injection e1 with e1 _ _
        rw[<-e1]at e2;injection e2 with e2
        injection e2 with e2 e3 _
        subst e2 e3;have hlen:=htn.length
        have key:∀(l:List Int) (bs:List Nat) (us:List Value),TN w (l.flatMap (enc (.int .u8))) bs us->us=l.map (Value.int .u8):=by
         intro l
         induction l with
         |nil=>intro bs us h;exact(TN.nil.1 h).1
         |cons y l ih=>
          intro bs us h;obtain⟨us',rfl,h2⟩:=TN.CP (show TN w (.v (.int .u8 y)::l.flatMap (enc (.int .u8))) bs us from h);rw[List.map_cons,ih _ _ h2]
        have hk:=key xs bs' us htn;refine hca i _ ?_;rw[hk,qY,qB hi,qC,qB hi];rfl
     simp only[execOp,h1,Sem.run_bind,hrun,Result.andThen_ok,Sem.run_pure];rfl
    .rw[dif_neg hu]at h;exact h.no.elim
   .exact h.no.elim
  .exact h.no.elim
 case index t x y=>
  unfold jc at h;simp only at h;split at h
  .rename_i st s i ht hx hy;obtain⟨⟨h4,h5⟩,h6⟩:=h.vc;subst h6;obtain⟨v1,e1,d1⟩:=aj E hg hx;obtain⟨v2,e2,d2⟩:=aj E hg hy;have:=ay d2;subst this;unfold Den at d1;obtain⟨d1,_⟩:=d1;subst d1;refine⟨.int .u8 (aG s i),?_,by unfold Den;rfl⟩;have hr:=run_index_string (P:=P) w t s .i64 i (uW hti ht);rw[dif_pos ⟨h4,h5⟩]at hr
   have hb:((s[i.toNat]'(by omega)).toNat:Int)=aG s i:=by
    unfold aG;rw[ByteArray.getElem?_lt' s _ (by omega)]
   rw[hb]at hr;simp only[execOp,e1,e2,Sem.run_bind,hr,Result.andThen_ok,Sem.run_pure]
  .exact h.no.elim
 case lookup t x y ok=>
  cases ok with
  |true=>
   unfold jc at h;simp only at h;split at h
   .rename_i u q i hlk hx hy;obtain⟨h3,k,e,h4,h5,inf,h6,h7⟩:=tK hti hlk;obtain⟨v1,e1,d1⟩:=aj E hg hx;obtain⟨v2,e2,d2⟩:=aj E hg hy;split at h
    .rename_i u' kv hm;cases hu:gH u u' with
     |false=>rw[hu]at h;exact h.no.elim
     |true=>
      rw[hu]at h;have:=aB hu;subst this;simp only[qG]at h;obtain⟨_,b,es,cl,q1,q2,q3⟩:=uy H hm;unfold Den at d1;obtain⟨s0,k1,k2⟩:=zQ (cx:=cx) (β:=β) h3 (iJ (dflt u) kv i);rw[ay d2]at e2;split at h
      .rename_i s1 hs;rw[hs]at k1;injection k1 with k1
       subst k1;have:=h.ok;subst this;exact⟨_,oz (e1.trans (d1.1.trans q1)) e2 h4 h5 h6 h7 q2 q3,by unfold Den;exact⟨[_,_],rfl,by unfold ah;exact⟨_,_,rfl,k2,ah.one (by unfold Den;rfl)⟩⟩⟩
      .rename_i s1 s2 hs;rw[hs]at k1;injection k1 with k1
       subst k1;have:=h.ok;subst this;exact⟨_,oz (e1.trans (d1.1.trans q1)) e2 h4 h5 h6 h7 q2 q3,by unfold Den;exact⟨[_,_],rfl,by unfold ah;exact⟨_,_,rfl,k2,ah.one (by unfold Den;rfl)⟩⟩⟩
      .exact h.no.elim
    .exact h.no.elim
   .exact h.no.elim
  |false=>
   unfold jc at h;simp only at h;split at h
   .rename_i u q i hlk hx hy;obtain⟨h3,k,e,h4,h5,inf,h6,h7⟩:=tK hti hlk;obtain⟨v1,e1,d1⟩:=aj E hg hx;obtain⟨v2,e2,d2⟩:=aj E hg hy;split at h
    .rename_i u' kv hm;cases hu:gH u u' with
     |false=>rw[hu]at h;exact h.no.elim
     |true=>
      rw[hu]at h;have:=aB hu;subst this;simp only[qG]at h;obtain⟨_,b,es,cl,q1,q2,q3⟩:=uy H hm;unfold Den at d1;obtain⟨s0,k1,k2⟩:=zQ (cx:=cx) (β:=β) h3 (iJ (dflt u) kv i);rw[ay d2]at e2;split at h
      .rename_i s1 hs;rw[hs]at k1;injection k1 with k1
       subst k1;have:=h.ok;subst this;exact⟨_,sS (e1.trans (d1.1.trans q1)) e2 h4 h5 h6 h7 q2 q3,k2⟩
      .rename_i s1 s2 hs;rw[hs]at k1;injection k1 with k1
       subst k1;have:=h.ok;subst this;exact⟨_,sS (e1.trans (d1.1.trans q1)) e2 h4 h5 h6 h7 q2 q3,k2⟩
      .exact h.no.elim
    .exact h.no.elim
   .rename_i q i j hlk hx hy;obtain⟨k,e,h4,h5,inf,h6,h7⟩:=uV hti hlk;obtain⟨v1,e1,d1⟩:=aj E hg hx;obtain⟨v2,e2,d2⟩:=aj E hg hy;split at h
    .rename_i kv hm;have:=h.ok;subst this;obtain⟨b,es,cl,q1,q2,q3⟩:=vV H hm;unfold Den at d1;exact⟨_,AU (i:=(i,j)) (e1.trans (d1.1.trans q1)) (by rw[e2];exact rQ d2) h4 h5 h6 h7 q2 q3,by unfold Den;rfl⟩
    .exact h.no.elim
   .exact h.no.elim
 case makeFunc f0 ts xs=>
  cases f0
  case func f=>
   unfold jc at h;simp only at h;split at h
   .rename_i l h1 h2;have:=h.ok;subst this;have hts:ts= #[]:=by simpa using congrArg List.toArray h1
    subst hts;have hd:=lD E hg h2;exact⟨_,DX (xs:=xs.toList) rfl,by unfold Den;exact⟨_,rfl,hd⟩⟩
   .exact h.no.elim
  all_goals (unfold jc at h;exact h.no.elim)
 all_goals (unfold jc at h;exact h.no.elim)
end
end Go.Tr
namespace Go.Tr
open Go Go.RowKit
universe u
inductive F2{α γ:Type u}(R:α->γ->Prop):List α->List γ->Prop where
 |nil:F2 R [] []
 |cons {a b l m} (h:R a b) (t:F2 R l m):F2 R (a::l) (b::m)
theorem aA{α:Type u}(l:List (Nat×α))(d t:Nat)(v:α):lk ((d,v)::l) t=if t=d then some v else lk l t:=by
 show(bif Nat.beq t d then some v else lk l t)=_;cases h:Nat.beq t d with
 |true=>rw[if_pos (ak h)];rfl
 |false=>rw[if_neg (fun e=>by subst e;simp at h)];rfl
section
variable {cx:Cx}{β β':Nat->Value}{P:Program}{ti:TI}{rs:List Tok}{fr:List aM}{w w':World}{v:SV}
theorem aP:∀{rs:List Tok} {k:Nat} {K:Tok->List Tok->Prop} {N:Prop},aU rs k K N->(∃x l,K x l/\x.name=k/\rs.Perm (x::l))\/N
 |[],k,K,N,h=>.inr h
 | .dn g t cs::l,k,K,N,h=>by
  unfold aU at h;cases hb:Nat.beq g k with
  |true=>rw[hb]at h;exact .inl ⟨_,l,h,ak hb,List.Perm.refl _⟩
  |false=>
   rw[hb]at h;rcases aP (rs:=l) h with⟨x,l',h1,h2,h3⟩|h1
   .exact .inl ⟨x,_,h1,h2,(h3.cons _).trans (List.Perm.swap _ _ _)⟩
   .exact .inr h1
 | .row g t s u xs us::l,k,K,N,h=>by
  unfold aU at h;cases hb:Nat.beq g k with
  |true=>rw[hb]at h;exact .inl ⟨_,l,h,ak hb,List.Perm.refl _⟩
  |false=>
   rw[hb]at h;rcases aP (rs:=l) h with⟨x,l',h1,h2,h3⟩|h1
   .exact .inl ⟨x,_,h1,h2,(h3.cons _).trans (List.Perm.swap _ _ _)⟩
   .exact .inr h1
 | .pmap g kv::l,k,K,N,h=>by
  unfold aU at h;cases hb:Nat.beq g k with
  |true=>rw[hb]at h;exact .inl ⟨_,l,h,ak hb,List.Perm.refl _⟩
  |false=>
   rw[hb]at h;rcases aP (rs:=l) h with⟨x,l',h1,h2,h3⟩|h1
   .exact .inl ⟨x,_,h1,h2,(h3.cons _).trans (List.Perm.swap _ _ _)⟩
   .exact .inr h1
 | .map g u kv::l,k,K,N,h=>by
  unfold aU at h;cases hb:Nat.beq g k with
  |true=>rw[hb]at h;exact .inl ⟨_,l,h,ak hb,List.Perm.refl _⟩
  |false=>
   rw[hb]at h;rcases aP (rs:=l) h with⟨x,l',h1,h2,h3⟩|h1
   .exact .inl ⟨x,_,h1,h2,(h3.cons _).trans (List.Perm.swap _ _ _)⟩
   .exact .inr h1
 | .nest g u xs us::l,k,K,N,h=>by
  unfold aU at h;cases hb:Nat.beq g k with
  |true=>rw[hb]at h;exact .inl ⟨_,l,h,ak hb,List.Perm.refl _⟩
  |false=>
   rw[hb]at h;rcases aP (rs:=l) h with⟨x,l',h1,h2,h3⟩|h1
   .exact .inl ⟨x,_,h1,h2,(h3.cons _).trans (List.Perm.swap _ _ _)⟩
   .exact .inr h1
 | .dat g t s u xs::l,k,K,N,h=>by
  unfold aU at h;cases hb:Nat.beq g k with
  |true=>rw[hb]at h;exact .inl ⟨_,l,h,ak hb,List.Perm.refl _⟩
  |false=>
   rw[hb]at h;rcases aP (rs:=l) h with⟨x,l',h1,h2,h3⟩|h1
   .exact .inl ⟨x,_,h1,h2,(h3.cons _).trans (List.Perm.swap _ _ _)⟩
   .exact .inr h1
 | .suf g t s u xs::l,k,K,N,h=>by
  unfold aU at h;cases hb:Nat.beq g k with
  |true=>rw[hb]at h;exact .inl ⟨_,l,h,ak hb,List.Perm.refl _⟩
  |false=>
   rw[hb]at h;rcases aP (rs:=l) h with⟨x,l',h1,h2,h3⟩|h1
   .exact .inl ⟨x,_,h1,h2,(h3.cons _).trans (List.Perm.swap _ _ _)⟩
   .exact .inr h1
theorem iX{k:Nat}{K:TypeId->List SV->List Tok->Prop}(h:iF rs k K):∃t cs l,K t cs l/\rs.Perm (.dn k t cs::l):=by
 rcases aP h with⟨x,l,h1,h2,h3⟩|h1
 .cases x with
  |dn g t cs=>cases h2;exact⟨t,cs,l,h1,h3⟩
  |row=>exact h1.elim
  |pmap=>exact h1.elim
  |map=>exact h1.elim
  |nest=>exact h1.elim
  |dat=>exact h1.elim
  |suf=>exact h1.elim
 .exact h1.elim
theorem aH{k:Nat}{K:TypeId->Nat->(u:U)->List (El u)->aO->List Tok->Prop}(h:bC rs k K):∃t s u xs us l,K t s u xs us l/\rs.Perm (.row k t s u xs us::l):=by
 rcases aP h with⟨x,l,h1,h2,h3⟩|h1
 .cases x with
  |row g t s u xs us=>cases h2;exact⟨t,s,u,xs,us,l,h1,h3⟩
  |dn=>exact h1.elim
  |pmap=>exact h1.elim
  |map=>exact h1.elim
  |nest=>exact h1.elim
  |dat=>exact h1.elim
  |suf=>exact h1.elim
 .exact h1.elim
theorem ng{k:Nat}{K:(u:U)->List (Int×El u)->List Tok->Prop}(h:qp rs k K):∃u kv l,K u kv l/\rs.Perm (.map k u kv::l):=by
 rcases aP h with⟨x,l,h1,h2,h3⟩|h1
 .cases x with
  |map g u kv=>cases h2;exact⟨u,kv,l,h1,h3⟩
  |nest=>exact h1.elim
  |pmap=>exact h1.elim
  |dat=>exact h1.elim
  |dn=>exact h1.elim
  |row=>exact h1.elim
  |suf=>exact h1.elim
 .exact h1.elim
theorem kQ{k:Nat}{K:List ((Int×Int)×Bool)->List Tok->Prop}(h:ni rs k K):∃kv l,K kv l/\rs.Perm (.pmap k kv::l):=by
 rcases aP h with⟨x,l,h1,h2,h3⟩|h1
 .cases x with
  |pmap g kv=>cases h2;exact⟨kv,l,h1,h3⟩
  |map=>exact h1.elim
  |nest=>exact h1.elim
  |dat=>exact h1.elim
  |dn=>exact h1.elim
  |row=>exact h1.elim
  |suf=>exact h1.elim
 .exact h1.elim
theorem tJ{k:Nat}{K:(u:U)->List (El u)->aO->List Tok->Prop}(h:tH rs k K):∃u xs us l,K u xs us l/\rs.Perm (.nest k u xs us::l):=by
 rcases aP h with⟨x,l,h1,h2,h3⟩|h1
 .cases x with
  |nest g u xs us=>cases h2;exact⟨u,xs,us,l,h1,h3⟩
  |dn=>exact h1.elim
  |row=>exact h1.elim
  |pmap=>exact h1.elim
  |map=>exact h1.elim
  |dat=>exact h1.elim
  |suf=>exact h1.elim
 .exact h1.elim
theorem iY{k:Nat}{K:TypeId->Nat->(u:U)->List (El u)->List Tok->Prop}(h:lM rs k K):∃t s u xs l,K t s u xs l/\rs.Perm (.dat k t s u xs::l):=by
 rcases aP h with⟨x,l,h1,h2,h3⟩|h1
 .cases x with
  |dat g t s u xs=>cases h2;exact⟨t,s,u,xs,l,h1,h3⟩
  |nest=>exact h1.elim
  |dn=>exact h1.elim
  |row=>exact h1.elim
  |pmap=>exact h1.elim
  |map=>exact h1.elim
  |suf=>exact h1.elim
 .exact h1.elim
theorem nk{k:Nat}{K:TypeId->Nat->(u:U)->List (El u)->List Tok->Prop}(h:qw rs k K):∃t s u xs l,K t s u xs l/\(rs.Perm (.suf k t s u xs::l)\/∃us,bf u=true/\rs.Perm (.row k t s u xs us::l)):=by
 rcases aP h with⟨x,l,h1,h2,h3⟩|h1
 .cases x with
  |suf g t s u xs=>cases h2;exact⟨t,s,u,xs,l,h1,.inl h3⟩
  |row g t s u xs us=>
   cases h2;simp only at h1;cases hf:bf u with
   |false=>rw[hf]at h1;exact h1.elim
   |true=>rw[hf]at h1;exact⟨t,s,u,xs,l,h1,.inr ⟨us,hf,h3⟩⟩
  |dat=>exact h1.elim
  |nest=>exact h1.elim
  |dn=>exact h1.elim
  |pmap=>exact h1.elim
  |map=>exact h1.elim
 .exact h1.elim
theorem Inv.aY{w0:World}{F0:aK}{rs rs':List Tok}(h:Inv w0 F0 w (rs.map (Tok.res cx β)++fr))(hp:rs.Perm rs'):Inv w0 F0 w (rs'.map (Tok.res cx β)++fr):=
 h.perm ((hp.map _).append_right fr)
theorem Sep.pO:∀{l m:List aM} {G:aK},F2 (fun r r'=>∀F,aM.p r w F->aM.p r' w F) l m->Sep w (l++fr) G->Sep w (m++fr) G
 |[],[],G,_,h=>h
 |r::l,r'::m,G,.cons h1 h2,⟨F,G',e,k1,k2,k3⟩=>⟨F,G',e,h1 F k1,Sep.pO h2 k2,k3⟩
theorem Bt:∀(l:List aM),F2 (fun r r'=>∀F,aM.p r w F->aM.p r' w F) l l
 |[]=>.nil
 |_::l=>.cons (fun F hp=>hp) (Bt l)
theorem Inv.pO{w0:World}{F0:aK}{l m:List aM}(h:Inv w0 F0 w (l++fr))(h2:F2 (fun r r'=>∀F,aM.p r w F->aM.p r' w F) l m):Inv w0 F0 w (m++fr):=by
 obtain⟨G,h3,h4⟩:=h.sep;exact⟨h.gM,G,Sep.pO h2 h3,h4⟩
theorem wC{w0:World}{F0:aK}{k:Nat}{t:TypeId}{s:Nat}{u:U}{xs:List (El u)}{l:List Tok}(h:rs.Perm (.suf k t s u xs::l)\/∃us,bf u=true/\rs.Perm (.row k t s u xs us::l))(hI:Inv w0 F0 w (rs.map (Tok.res cx β)++fr)):
  Inv w0 F0 w ((Tok.suf k t s u xs::l).map (Tok.res cx β)++fr):=by
 rcases h with h2|⟨us,hf,h2⟩
 .exact hI.aY h2
 .refine Inv.pO (l:=(Tok.row k t s u xs us::l).map (Tok.res cx β)) (hI.aY h2) ?_;exact .cons (fun F hp=>⟨hp.1,hf,xH.Co hf hp.2⟩) (Bt _)
mutual
theorem aQ{g:Nat}:∀{v:SV} {r:aK},g∈v.names r↔g∈v.names []\/g∈r
 | .ptr _ _,r| .sl _,r| .ep _ _ _ _,r| .mp _,r| .sx _ _ _ _,r=>by simp[SV.names]
 | .agg l,r| .tup l,r| .fn _ l,r=>by simp only[SV.names];exact iT
 | .gd _ _ v,r=>by simp only[SV.names];exact aQ
 | .int _ _,r| .bool _,r| .raw _,r| .rsl _ _,r| .rp _ _,r| .un,r| .nh _ _ _ _,r| .np _ _ _ _ _ _ _,r| .nn _ _,r=>by simp[SV.names]
theorem iT{g:Nat}:∀{l:List SV} {r:aK},g∈bH l r↔g∈bH l []\/g∈r
 |[],r=>by simp[bH]
 |v::l,r=>by
  simp only[bH];rw[aQ (v:=v) (r:=bH l r),aQ (v:=v) (r:=bH l []),iT (l:=l) (r:=r)];constructor
  .rintro(h|h|h)<;>simp[h]
  .rintro((h|h)|h)<;>simp[h]
end
mutual
theorem Den.congr:∀{v:SV} {x:Value},Den cx β v x->(∀g∈v.names [],β' g=β g)->Den cx β' v x
 | .ptr g o,x,h,e=>by
  unfold Den at h |-;rw[e g (by simp[SV.names])];exact h
 | .sl g,x,h,e=>by
  unfold Den at h |-;rw[e g (by simp[SV.names])];exact h
 | .ep g s i o,x,h,e=>by
  unfold Den at h |-;rw[e g (by simp[SV.names])];exact h
 | .mp g,x,h,e=>by
  unfold Den at h |-;rw[e g (by simp[SV.names])];exact h
 | .sx g _ _ _,x,h,e=>by
  unfold Den at h |-;rw[e g (by simp[SV.names])];exact h
 | .agg l,x,h,e| .tup l,x,h,e| .fn _ l,x,h,e=>by
  unfold Den at h |-;obtain⟨vs,h1,h2⟩:=h;exact⟨vs,h1,h2.congr e⟩
 | .gd _ _ v,x,h,e=>by unfold Den at h;exact h.elim
 | .int _ _,x,h,e| .bool _,x,h,e| .raw _,x,h,e| .rsl _ _,x,h,e| .rp _ _,x,h,e| .un,x,h,e| .nh _ _ _ _,x,h,e| .np _ _ _ _ _ _ _,x,h,e| .nn _ _,x,h,e=>by unfold Den at h |-;exact h
theorem ah.congr:∀{l:List SV} {xs:aO},ah cx β l xs->(∀g∈bH l [],β' g=β g)->ah cx β' l xs
 |[],xs,h,e=>by unfold ah at h |-;exact h
 |v::l,xs,h,e=>by
  unfold ah at h |-;obtain⟨x,xs',h1,h2,h3⟩:=h;refine⟨x,xs',h1,h2.congr fun g hg=>e g ?_,h3.congr fun g hg=>e g ?_⟩
  .simp only[bH];rw[aQ];exact .inl hg
  .simp only[bH];rw[aQ];exact .inr hg
end
theorem dP{st:Bool}{σ:List (Nat×Nat)}{g:Nat}{K:Nat->Prop}(h:lJ st σ g K):∃g',K g'/\(lk σ g=some g'\/(st=false/\lk σ g=none/\g'=g)):=by
 unfold lJ at h;split at h
 .rename_i g' hg;exact⟨g',h,.inl hg⟩
 .rename_i hg;cases st with
  |true=>exact h.elim
  |false=>exact⟨g,h,.inr ⟨rfl,hg,rfl⟩⟩
def Bq(st:Bool)(σ:List (Nat×Nat))(β β':Nat->Value):Prop:=∀g g',(lk σ g=some g'\/(st=false/\lk σ g=none/\g'=g))->β' g'=β g
def EK(st:Bool)(σ:List (Nat×Nat))(v v':SV):Prop:=∀(cx:Cx) β β',Bq st σ β β'->∀x,(Den cx β v x↔Den cx β' v' x)
mutual
theorem qh{st:Bool}{σ:List (Nat×Nat)}:∀{v:SV} {K:SV->Prop},BF st σ v K->∃v',K v'/\EK st σ v v'
 | .ptr g o,K,h=>by
  have h:lJ st σ g (fun h=>K (.ptr h o)):=h;obtain⟨g',h1,h2⟩:=dP h;exact⟨_,h1,fun cx β β' hb x=>by unfold Den;rw[hb g g' h2]⟩
 | .sl g,K,h=>by
  have h:lJ st σ g (fun h=>K (.sl h)):=h;obtain⟨g',h1,h2⟩:=dP h;exact⟨_,h1,fun cx β β' hb x=>by unfold Den;rw[hb g g' h2]⟩
 | .ep g s i o,K,h=>by
  have h:lJ st σ g (fun h=>K (.ep h s i o)):=h;obtain⟨g',h1,h2⟩:=dP h;exact⟨_,h1,fun cx β β' hb x=>by unfold Den;rw[hb g g' h2]⟩
 | .mp g,K,h=>by
  have h:lJ st σ g (fun h=>K (.mp h)):=h;obtain⟨g',h1,h2⟩:=dP h;exact⟨_,h1,fun cx β β' hb x=>by unfold Den;rw[hb g g' h2]⟩
 | .sx g s lo n,K,h=>by
  have h:lJ st σ g (fun h=>K (.sx h s lo n)):=h;obtain⟨g',h1,h2⟩:=dP h;exact⟨_,h1,fun cx β β' hb x=>by unfold Den;rw[hb g g' h2]⟩
 | .agg l,K,h=>by
  have h:uO st σ l (fun l'=>K (.agg l')):=h;obtain⟨l',h1,h2⟩:=iE h;exact⟨_,h1,fun cx β β' hb x=>by unfold Den;exact⟨fun⟨vs,e,k⟩=>⟨vs,e,(h2 cx β β' hb vs).1 k⟩,fun⟨vs,e,k⟩=>⟨vs,e,(h2 cx β β' hb vs).2 k⟩⟩⟩
 | .tup l,K,h=>by
  have h:uO st σ l (fun l'=>K (.tup l')):=h;obtain⟨l',h1,h2⟩:=iE h;exact⟨_,h1,fun cx β β' hb x=>by unfold Den;exact⟨fun⟨vs,e,k⟩=>⟨vs,e,(h2 cx β β' hb vs).1 k⟩,fun⟨vs,e,k⟩=>⟨vs,e,(h2 cx β β' hb vs).2 k⟩⟩⟩
 | .fn f l,K,h=>by
  have h:uO st σ l (fun l'=>K (.fn f l')):=h;obtain⟨l',h1,h2⟩:=iE h;exact⟨_,h1,fun cx β β' hb x=>by unfold Den;exact⟨fun⟨vs,e,k⟩=>⟨vs,e,(h2 cx β β' hb vs).1 k⟩,fun⟨vs,e,k⟩=>⟨vs,e,(h2 cx β β' hb vs).2 k⟩⟩⟩
 | .int _ _,K,h| .bool _,K,h| .raw _,K,h| .rsl _ _,K,h| .rp _ _,K,h| .un,K,h| .nh _ _ _ _,K,h| .np _ _ _ _ _ _ _,K,h| .nn _ _,K,h=>by
  exact⟨_,h,fun cx β β' hb x=>by unfold Den;exact Iff.rfl⟩
 | .gd _ _ _,K,h=>by exact False.elim h
theorem iE{st:Bool}{σ:List (Nat×Nat)}:∀{l:List SV} {K:List SV->Prop},uO st σ l K->∃l',K l'/\∀(cx:Cx) β β',Bq st σ β β'->∀xs,(ah cx β l xs↔ah cx β' l' xs)
 |[],K,h=>by
  have h:K []:=h;exact⟨[],h,fun cx β β' hb xs=>by unfold ah;exact Iff.rfl⟩
 |v::l,K,h=>by
  have h:BF st σ v fun v'=>uO st σ l fun l'=>K (v'::l'):=h
  obtain⟨v',h1,h2⟩:=qh h;obtain⟨l',h3,h4⟩:=iE h1;refine⟨_,h3,fun cx β β' hb xs=> ?_⟩;unfold ah;exact⟨fun⟨x,xs',e,k1,k2⟩=>⟨x,xs',e,(h2 cx β β' hb x).1 k1,(h4 cx β β' hb xs').1 k2⟩,fun⟨x,xs',e,k1,k2⟩=>⟨x,xs',e,(h2 cx β β' hb x).2 k1,(h4 cx β β' hb xs').2 k2⟩⟩
end
theorem A8{st:Bool}{σ:List (Nat×Nat)}{t:Tok}{K:Tok->Prop}(h:qj st σ t K):∃t',K t'/\∀(cx:Cx) β β',Bq st σ β β'->∀w F,(((Tok.res cx β t).p w F)↔((Tok.res cx β' t').p w F)):=by
 cases t with
 |dn g t cs=>
  unfold qj at h;obtain⟨g',h1,h2⟩:=dP h;obtain⟨l',h3,h4⟩:=iE h1;refine⟨_,h3,fun cx β β' hb w F=> ?_⟩;show(∃b us,β g=_/\ah cx β cs us/\_/\_)↔(∃b us,β' g'=_/\ah cx β' l' us/\_/\_);rw[hb g g' h2];exact⟨fun⟨b,us,k1,k2,k3⟩=>⟨b,us,k1,(h4 cx β β' hb us).1 k2,k3⟩,fun⟨b,us,k1,k2,k3⟩=>⟨b,us,k1,(h4 cx β β' hb us).2 k2,k3⟩⟩
 |row g t s u xs us=>
  unfold qj at h;obtain⟨g',h1,h2⟩:=dP h;refine⟨_,h1,fun cx β β' hb w F=> ?_⟩;show(_/\(kD (β g) _ _ _ _ _).p w F)↔(_/\(kD (β' g') _ _ _ _ _).p w F);rw[hb g g' h2]
 |map g u kv=>
  unfold qj at h;obtain⟨g',h1,h2⟩:=dP h;refine⟨_,h1,fun cx β β' hb w F=> ?_⟩;show(_/\∃r es cl,β g=_/\_)↔(_/\∃r es cl,β' g'=_/\_);rw[hb g g' h2]
 |pmap g kv=>
  unfold qj at h;obtain⟨g',h1,h2⟩:=dP h;refine⟨_,h1,fun cx β β' hb w F=> ?_⟩;show(∃r es cl,β g=_/\_)↔(∃r es cl,β' g'=_/\_);rw[hb g g' h2]
 |nest g u xs us=>
  unfold qj at h;obtain⟨g',h1,h2⟩:=dP h;exact⟨_,h1,fun cx β β' hb w F=>Iff.rfl⟩
 |suf g t s u xs=>
  unfold qj at h;obtain⟨g',h1,h2⟩:=dP h;refine⟨_,h1,fun cx β β' hb w F=> ?_⟩;show(_/\_/\(xH (β g) _ _ _ _).p w F)↔(_/\_/\(xH (β' g') _ _ _ _).p w F);rw[hb g g' h2]
 |dat g t s u xs=>
  unfold qj at h;obtain⟨g',h1,h2⟩:=dP h;refine⟨_,h1,fun cx β β' hb w F=> ?_⟩;show(_/\∃us,ah cx β _ us/\_/\(kD (β g) _ _ _ _ _).p w F)↔(_/\∃us,ah cx β' _ us/\_/\(kD (β' g') _ _ _ _ _).p w F);rw[hb g g' h2];exact⟨fun⟨k1,us,k2,k3⟩=>⟨k1,us,k2.kI,k3⟩,fun⟨k1,us,k2,k3⟩=>⟨k1,us,k2.kI,k3⟩⟩
theorem gV{st:Bool}{σ:List (Nat×Nat)}:∀{l:List Tok} {K:List Tok->Prop},gu st σ l K->∃l',K l'/\l'.length=l.length/\∀(cx:Cx) β β',Bq st σ β β'->∀w,F2 (fun r r'=>∀F,(aM.p r w F↔aM.p r' w F)) (l.map (Tok.res cx β)) (l'.map (Tok.res cx β'))
 |[],K,h=>by
  unfold gu at h;exact⟨[],h,rfl,fun cx β β' hb w=>.nil⟩
 |t::l,K,h=>by
  unfold gu at h;obtain⟨v',h1,h2⟩:=A8 h;obtain⟨l',h3,h4,h5⟩:=gV h1;exact⟨_,h3,by simp[h4],fun cx β β' hb w=>.cons (h2 cx β β' hb w) (h5 cx β β' hb w)⟩
theorem dx{α γ:Type u}{R S:α->γ->Prop}(h:∀a b,R a b->S a b):∀{l:List α} {m:List γ},F2 R l m->F2 S l m
 |[],[],_=>.nil
 |_::_,_::_,.cons h1 h2=>.cons (h _ _ h1) (dx h h2)
theorem fJ{α γ:Type u}{R:α->γ->Prop}:∀{l:List α} {m:List γ},F2 R l m->F2 (fun b a=>R a b) m l
 |[],[],_=>.nil
 |_::_,_::_,.cons h1 h2=>.cons h1 (fJ h2)
theorem Inv.dZ{w0:World}{F0:aK}{us vs:aO}{ds es:List D}{R:List aM}(h:Inv w0 F0 w (aL us ds::aL vs es::R)):Inv w0 F0 w (aL (us++vs) (ds++es)::R):=by
 obtain⟨F1,F2,⟨h1,h2⟩,⟨h3,h4⟩,h5,h6⟩:=h.take2;exact h6 _ (F1++F2) (fun b hb=>by simpa using hb) ⟨TN.append.2 ⟨F1,F2,us,vs,rfl,rfl,h1,h3⟩,Own.join h2 h4 h5⟩
theorem Inv.swap{w0:World}{F0:aK}{r s:aM}{R:List aM}(h:Inv w0 F0 w (r::s::R)):Inv w0 F0 w (s::r::R):=h.perm (List.Perm.swap _ _ _)
theorem yG{v:Value}{t:TypeId}{s n:Nat}{ds:List D}{pre:aO}{F:aK}(h:(kD v t s n ds pre).p w F):(Gr v t s n ds).p w F:=by
 obtain⟨bs,us,h1,h2,_⟩:=h;exact⟨bs,us,h1,h2⟩
theorem Ci{v:Value}{t:TypeId}{s n:Nat}{ds:List D}{F:aK}(h:(Gr v t s n ds).p w F):(kD v t s n ds []).p w F:=by
 obtain⟨bs,us,h1,h2⟩:=h;exact⟨bs,us,h1,h2,nP⟩
theorem zB{w0:World}{F0:aK}{k:Nat}{t:TypeId}{s:Nat}{u:U}{xs:List (El u)}{us:aO}{R:List aM}(h:Inv w0 F0 w (Tok.res cx β (.row k t s u xs us)::R)):∃A c,β k=.slice A xs.length c/\Inv w0 F0 w (Dat (β k) xs.length (xs.flatMap (enc u))::R):=by
 obtain⟨F,h1,h2,h3⟩:=h.take1;have hs:u.size=s:=h1.1;have h4:Inv w0 F0 w (Gr (β k) t s xs.length (xs.flatMap (enc u))::R):=h2 _ F (fun _ h=>h) (yG h1.2);obtain⟨A,c,h5,h6⟩:=h4.Ch (by rw[aC,hs]);exact⟨A,c,h5,h5▸h6⟩
theorem jU:∀(u:U) {cs:List SV} {rs:List Tok} {K:El u->List SV->List Tok->Prop},mkK u cs rs K->∃x l rs',K x l rs'/\(∀t∈rs',t∈rs)/\
  ∀(cx:Cx) (β:Nat->Value) (w w0:World) (F0:List Nat) (us:List Value) (R:List aM),ah cx β cs us->Inv w0 F0 w (rs.map (Tok.res cx β)++R)->
  ∃u1 u2,us=u1++u2/\u1.length=u.size/\ah cx β l u2/\Inv w0 F0 w (aL u1 (enc u x)::(rs'.map (Tok.res cx β)++R))
 | .int k,[],rs,K,h| .bool,[],rs,K,h| .str,[],rs,K,h| .any,[],rs,K,h| .sl _,[],rs,K,h=>by unfold mkK at h;exact h.elim
 | .int k,c::l,rs,K,h=>by
  unfold mkK at h;split at h
  .rename_i k' i;cases hb:(k'==k)with
   |false=>rw[hb]at h;exact h.elim
   |true=>
    rw[hb]at h;rw[beq_iff_eq]at hb;subst hb;refine⟨i,l,rs,h,fun _ h=>h,fun cx β w w0 F0 us R hd hI=> ?_⟩;unfold ah at hd;obtain⟨v,vs',rfl,h1,h2⟩:=hd;rw[ay h1];exact⟨[_],vs',rfl,rfl,h2,(hI.iR).uE rfl⟩
  .exact h.elim
 | .bool,c::l,rs,K,h=>by
  unfold mkK at h;split at h
  .rename_i b;refine⟨b,l,rs,h,fun _ h=>h,fun cx β w w0 F0 us R hd hI=> ?_⟩;unfold ah at hd;obtain⟨v,vs',rfl,h1,h2⟩:=hd;rw[bL h1];exact⟨[_],vs',rfl,rfl,h2,(hI.iR).uE rfl⟩
  .exact h.elim
 | .str,c::l,rs,K,h=>by
  unfold mkK at h;split at h
  .rename_i x;refine⟨x,l,rs,h,fun _ h=>h,fun cx β w w0 F0 us R hd hI=> ?_⟩;unfold ah at hd;obtain⟨v,vs',rfl,h1,h2⟩:=hd;unfold Den at h1;obtain⟨rfl,h3⟩:=h1;exact⟨[_],vs',rfl,rfl,h2,(hI.iR).uE h3⟩
  .exact h.elim
 | .any,c::l,rs,K,h=>by
  unfold mkK at h;split at h
  .rename_i x;refine⟨x,l,rs,h,fun _ h=>h,fun cx β w w0 F0 us R hd hI=> ?_⟩;unfold ah at hd;obtain⟨v,vs',rfl,h1,h2⟩:=hd;unfold Den at h1;obtain⟨rfl,h3⟩:=h1;exact⟨[_],vs',rfl,rfl,h2,(hI.iR).uE h3⟩
  .rename_i k i;refine⟨.int k i,l,rs,h,fun _ h=>h,fun cx β w w0 F0 us R hd hI=> ?_⟩;unfold ah at hd;obtain⟨v,vs',rfl,h1,h2⟩:=hd;rw[ay h1];exact⟨[_],vs',rfl,rfl,h2,(hI.iR).uE rfl⟩
  .rename_i hdr;refine⟨hdr,l,rs,h,fun _ h=>h,fun cx β w w0 F0 us R hd hI=> ?_⟩;unfold ah at hd;obtain⟨v,vs',rfl,h1,h2⟩:=hd;unfold Den at h1;obtain⟨rfl,A,c,e,_⟩:=h1;exact⟨[_],vs',rfl,rfl,h2,(hI.iR).uE (by rw[e];rfl)⟩
  .exact h.elim
 | .pair a b,cs,rs,K,h=>by
  unfold mkK at h;obtain⟨x,l,rs',h1,hs1,h2⟩:=jU a h;obtain⟨y,l',rs'',k1,hs2,k2⟩:=jU b h1;refine⟨(x,y),l',rs'',k1,fun t ht=>hs1 t (hs2 t ht),fun cx β w w0 F0 us R hd hI=> ?_⟩;obtain⟨u1,u2,rfl,e1,e2,e3⟩:=h2 cx β w w0 F0 us R hd hI;obtain⟨u3,u4,rfl,q1,q2,q3⟩:=k2 cx β w w0 F0 u2 (aL u1 (enc a x)::R) e2 (e3.perm (List.perm_middle.symm));refine⟨u1++u3,u4,by simp,by simp[U.size,e1,q1],q2,?_⟩
  have k5:Inv w0 F0 w (aL u1 (enc a x)::aL u3 (enc b y)::(rs''.map (Tok.res cx β)++R)):=q3.perm (by
   refine(List.Perm.cons _ List.perm_middle).trans (List.Perm.swap _ _ _))
  exact k5.dZ
 | .sl e,c::l,rs,K,h=>by
  unfold mkK at h;split at h
  .rename_i k;obtain⟨t,s,u,xs,_,rs',h3,h4⟩:=aH h;split at h3
   .rename_i hu;cases hb:Nat.beq s e.size with
    |false=>rw[hb]at h3;exact h3.elim
    |true=>
     rw[hb]at h3;have hue:=aB hu;subst hue;refine⟨_,l,rs',h3,fun t ht=>h4.mem_iff.2 (by simp[ht]),fun cx β w w0 F0 us R hd hI=> ?_⟩;unfold ah at hd;obtain⟨v,vs',rfl,h1,h2⟩:=hd;unfold Den at h1;obtain⟨h1,_⟩:=h1;subst h1;obtain⟨A,c,h5,h6⟩:=zB (hI.aY h4);exact⟨[_],vs',rfl,rfl,h2,(Inv.swap h6.iR).wQ⟩
   .exact h3.elim
  .refine⟨_,l,rs,h,fun _ h=>h,fun cx β w w0 F0 us R hd hI=> ?_⟩;unfold ah at hd;obtain⟨v,vs',rfl,h1,h2⟩:=hd;unfold Den at h1;obtain⟨rfl,h3⟩:=h1;exact⟨[_],vs',rfl,rfl,h2,(hI.iR.lu).wQ⟩
  .exact h.elim
 | .tree e,l,rs,K,h=>by
  unfold mkK at h;obtain⟨x,l1,rs1,h1,hs1,h2⟩:=jU e h;split at h1
  .rename_i c l2;split at h1
   .rename_i k;obtain⟨t,s,u,xs,_,rs',h3,h4⟩:=aH h1;split at h3
    .rename_i hu;cases hb:Nat.beq s (e.size+1)with
     |false=>rw[hb]at h3;exact h3.elim
     |true=>
      rw[hb]at h3;have hue:=aB hu;subst hue;refine⟨_,l2,rs',h3,fun t ht=>hs1 t (h4.mem_iff.2 (by simp[ht])),fun cx β w w0 F0 us R hd hI=> ?_⟩;obtain⟨u1,u2,rfl,e1,e2,e3⟩:=h2 cx β w w0 F0 us R hd hI;unfold ah at e2;obtain⟨v,vs',rfl,d1,d2⟩:=e2;unfold Den at d1;obtain⟨d1,_⟩:=d1;subst d1;have e3':Inv w0 F0 w (rs1.map (Tok.res cx β)++(aL u1 (enc e x)::R)):=e3.perm List.perm_middle.symm;obtain⟨A,c,h5,h6⟩:=zB (e3'.aY h4);refine⟨u1++[β k],vs',by simp,by simp[U.size,e1],d2,?_⟩;have k5:=(Inv.swap h6.iR).wQ;rw[bX]
      refine Inv.dZ (k5.perm ?_);exact(List.Perm.cons _ List.perm_middle).trans (List.Perm.swap _ _ _)
    .exact h3.elim
   .refine⟨_,l2,rs1,h1,hs1,fun cx β w w0 F0 us R hd hI=> ?_⟩;obtain⟨u1,u2,rfl,e1,e2,e3⟩:=h2 cx β w w0 F0 us R hd hI;unfold ah at e2;obtain⟨v,vs',rfl,d1,d2⟩:=e2;unfold Den at d1;obtain⟨rfl,_⟩:=d1;have e3':Inv w0 F0 w (rs1.map (Tok.res cx β)++(aL u1 (enc e x)::R)):=e3.perm List.perm_middle.symm;refine⟨u1++[.slice none 0 0],vs',by simp,by simp[U.size,e1],d2,?_⟩;have k5:=(e3'.iR.lu).wQ;rw[bX];refine Inv.dZ (k5.perm ?_);exact(List.Perm.cons _ List.perm_middle).trans (List.Perm.swap _ _ _)
   .exact h1.elim
  .exact h1.elim
theorem vK{u:U}:∀{css:List (List SV)} {rs:List Tok} {K:List (El u)->List Tok->Prop},wP u css rs K->∃xs rs',K xs rs'/\(∀t∈rs',t∈rs)/\xs.length=css.length/\
  ∀(cx:Cx) (β:Nat->Value) (w w0:World) (F0:List Nat) (uss:List (List Value)) (R:List aM),F2 (fun cs us=>ah cx β cs us) css uss->Inv w0 F0 w (rs.map (Tok.res cx β)++R)->
  (∀us∈uss,us.length=u.size)/\Inv w0 F0 w (aL uss.flatten (xs.flatMap (enc u))::(rs'.map (Tok.res cx β)++R))
 |[],rs,K,h=>⟨[],rs,h,fun _ h=>h,rfl,fun cx β w w0 F0 uss R hd hI=>by cases hd;exact⟨by simp,hI.iR⟩⟩
 |c::cs,rs,K,h=>by
  unfold wP at h;obtain⟨x,l,rs',h1,hs1,h2⟩:=jU u h;split at h1
  .obtain⟨xs,rs'',k1,hs2,k2,k3⟩:=vK h1;refine⟨x::xs,rs'',k1,fun t ht=>hs1 t (hs2 t ht),by simp[k2],fun cx β w w0 F0 uss R hd hI=> ?_⟩;cases hd with
   |cons hd hds=>
    rename_i us uss;obtain⟨u1,u2,rfl,e1,e2,e3⟩:=h2 cx β w w0 F0 us R hd hI;unfold ah at e2;subst e2;obtain⟨q1,q2⟩:=k3 cx β w w0 F0 uss (aL u1 (enc u x)::R) hds (e3.perm (List.perm_middle.symm));refine⟨by simpa[e1]using q1,?_⟩
    have k5:Inv w0 F0 w (aL u1 (enc u x)::aL uss.flatten (xs.flatMap (enc u))::(rs''.map (Tok.res cx β)++R)):=q2.perm (by
     refine(List.Perm.cons _ List.perm_middle).trans (List.Perm.swap _ _ _))
    simpa using k5.dZ
  .exact h1.elim
end
end Go.Tr
namespace Go.Tr
open Go Go.RowKit
universe u
section
variable {cx:Cx}{β β':Nat->Value}{P:Program}{ti:TI}{n:Nat}{a:Act}{env:Ev}{rs:List Tok}{fr:List aM}{w w':World}{g:Option (Nat×Bool)}{v:SV}
theorem jV{d:Nat}:∀{l:aK},pW d l=true->∀g∈l,g % 1000000≠d
 |[],_,g,hg=>by simp at hg
 |x::l,h,g,hg=>by
  unfold pW at h;cases hb:Nat.beq (x % 1000000) d with
  |true=>rw[hb]at h;cases h
  |false=>
   rw[hb]at h;rcases List.mem_cons.1 hg with rfl|hg
   .intro e;rw[e]at hb;simp at hb
   .exact jV h g hg
theorem jH{g:Nat}:∀{t:Tok} {r:aK},g∈t.names r↔g∈t.names []\/g∈r
 | .dn h t cs,r=>by
  simp only[Tok.names,List.mem_cons];rw[iT];constructor
  .rintro(h|h|h)<;>simp[h]
  .rintro((h|h)|h)<;>simp[h]
 | .row h t s u xs us,r=>by simp[Tok.names]
 | .map h u kv,r=>by simp[Tok.names]
 | .pmap h kv,r=>by simp[Tok.names]
 | .nest h u xs us,r=>by simp[Tok.names]
 | .suf h t s u xs,r=>by simp[Tok.names]
 | .dat h t s u xs,r=>by simp[Tok.names]
theorem bF{g:Nat}:∀{l:List Tok} {r:aK},g∈aF l r↔(∃t∈l,g∈t.names [])\/g∈r
 |[],r=>by simp[aF]
 |t::l,r=>by
  simp only[aF];rw[jH,bF (l:=l)];simp only[List.mem_cons,exists_eq_or_imp];constructor
  .rintro(h|h|h)<;>simp[h]
  .rintro((h|h)|h)<;>simp[h]
theorem cB{g:Nat}:∀{l:Ev} {r:aK},g∈eu l r↔(∃t∈l,g∈t.2.names [])\/g∈r
 |[],r=>by simp[eu]
 |(t,v)::l,r=>by
  simp only[eu];rw[aQ,cB (l:=l)];simp only[List.mem_cons,exists_eq_or_imp];constructor
  .rintro(h|h|h)<;>simp[h]
  .rintro((h|h)|h)<;>simp[h]
def lN(d:Nat)(β β':Nat->Value):Prop:=∀g,g % 1000000≠d->β' g=β g
theorem dK{d:Nat}(h:au d env rs=true):∀t∈rs,∀g∈t.names [],g % 1000000≠d:=fun t ht g hg=>
 jV h g (cB.2 (.inr (bF.2 (.inl ⟨t,ht,hg⟩))))
theorem jP{d:Nat}(h:au d env rs=true):∀t s,lk env t=some s->∀g∈s.names [],g % 1000000≠d:=fun t s hl g hg=>
 jV h g (cB.2 (.inl ⟨_,jT hl,hg⟩))
theorem oJ{t:Tok}(h:∀g∈t.names [],β' g=β g){F:aK}(hp:(Tok.res cx β t).p w F):(Tok.res cx β' t).p w F:=by
 cases t with
 |dn g t cs=>
  obtain⟨b,us,h1,h2,h3⟩:=hp;refine⟨b,us,?_,h2.congr fun x hx=>h x ?_,h3⟩
  .rw[h g (by simp[Tok.names])];exact h1
  .simp only[Tok.names,List.mem_cons];exact .inr hx
 |row g t s u xs us=>
  refine⟨hp.1,?_⟩;rw[h g (by simp[Tok.names])];exact hp.2
 |map g u kv=>
  refine⟨hp.1,?_⟩;rw[h g (by simp[Tok.names])];exact hp.2
 |pmap g kv=>
  obtain⟨r,es,cl,h1,h2⟩:=hp;exact⟨r,es,cl,by rw[h g (by simp[Tok.names])];exact h1,h2⟩
 |nest g u xs us=>exact hp
 |suf g t s u xs=>
  refine⟨hp.1,hp.2.1,?_⟩;rw[h g (by simp[Tok.names])];exact hp.2.2
 |dat g t s u xs=>
  obtain⟨h0,us,h1,h2,h3⟩:=hp;refine⟨h0,us,h1.kI,h2,?_⟩;rw[h g (by simp[Tok.names])];exact h3
theorem yx{f k:Tok->aM}:∀{l:List Tok},(∀t∈l,∀F,(f t).p w F->(k t).p w F)->F2 (fun r r'=>∀F,aM.p r w F->aM.p r' w F) (l.map f) (l.map k)
 |[],_=>.nil
 |t::l,h=>.cons (h t (by simp)) (yx fun t ht=>h t (by simp[ht]))
theorem Inv.beta{w0:World}{F0:aK}(h:Inv w0 F0 w (rs.map (Tok.res cx β)++fr))(hb:∀t∈rs,∀g∈t.names [],β' g=β g):Inv w0 F0 w (rs.map (Tok.res cx β')++fr):=
 h.pO (yx fun t ht F hp=>oJ (hb t ht) hp)
def up(β:Nat->Value)(d:Nat)(x:Value):Nat->Value:=fun g=>if g=d then x else β g
theorem aV(d:Nat)(x:Value):up β d x d=x:=by simp[up]
theorem fV{d:Nat}(hd:d<1000000)(x:Value):lN d β (up β d x):=fun g hg=>by
 have:g≠d:=fun e=>hg (by rw[e];exact Nat.mod_eq_of_lt hd)
 simp[up,this]
theorem kZ{s:SV}{x:Value}(hb:rH s=true)(h:Den cx β s x):x.oneCell'=true:=by
 cases s<;>first|cases hb|skip
 all_goals unfold Den at h
 .subst h;rfl
 .subst h;rfl
 .rw[h.1];exact h.2
 .obtain⟨A,c,rfl⟩:=h.slice;rfl
 .obtain⟨b,o,rfl,_⟩:=h;rfl
 .obtain⟨b,_,rfl⟩:=h;rfl
 .obtain⟨_,A,n,c,rfl⟩:=h;rfl
 .obtain⟨b,z,m,c,_,_,rfl⟩:=h;rfl
 .obtain⟨vs,rfl,_⟩:=h;rfl
 .obtain⟨rfl,A,c,rfl,_⟩:=h;rfl
 .obtain⟨b,o,c,_,rfl⟩:=h;rfl
 .obtain⟨_,r,rfl⟩:=h;rfl
 .obtain⟨_,A,n,c,rfl⟩:=h;rfl
theorem lg:∀{l:List SV} {us:aO},oM l=true->ah cx β l us->us.all (·.oneCell')=true
 |[],us,_,h=>by unfold ah at h;subst h;rfl
 |s::l,us,hb,h=>by
  unfold ah at h;obtain⟨v,vs',rfl,h1,h2⟩:=h;unfold oM at hb;rw[qD]at hb;rw[List.all_cons,kZ hb.1 h1,lg hb.2 h2];rfl
def Ab(P:Program)(cx:Cx)(β:Nat->Value)(fr:List aM)(a:Act)(w:World)(d:Nat)(o:Oper)(v:SV)(rs':List Tok):Prop:=
 (∃x w' β',(execOp a.eval o).run P w=.ok (.value x) w'/\lN d β β'/\Den cx β' v x/\Inv cx.w0 cx.F0 w' (rs'.map (Tok.res cx β')++fr))\/
 (∃f args,(execOp a.eval o).run P w=.ok (.enter f args) w/\Calls P f args w fun e w'=>∃x β',e=.returned x/\lN d β β'/\Den cx β' v x/\Inv cx.w0 cx.F0 w' (rs'.map (Tok.res cx β')++fr))
theorem vO{d:Nat}{t:TypeId}{cs:List SV}{us:aO}(hd:d<1000000)(hf:au d env rs=true)(hH:Inv cx.w0 cx.F0 w (rs.map (Tok.res cx β)++fr))(hc:∀g∈bH cs [],g % 1000000≠d)(hu:ah cx β cs us)(h1:us.all (·.oneCell')=true):
  lN d β (up β d (.pointer (some ⟨w.heap.size,0,none⟩)))/\Den cx (up β d (.pointer (some ⟨w.heap.size,0,none⟩))) (.ptr d 0) (.pointer (some ⟨w.heap.size,0,none⟩))/\
   Inv cx.w0 cx.F0 (w.alloc (.cells us.toArray t)) ((Tok.dn d t cs::rs).map (Tok.res cx (up β d (.pointer (some ⟨w.heap.size,0,none⟩))))++fr):=by
 have hA:=fV (β:=β) hd (.pointer (some ⟨w.heap.size,0,none⟩));refine⟨hA,by unfold Den;exact⟨_,aV _ _,rfl⟩,?_⟩;have h2:=(hH.beta (β':=up β d (.pointer (some ⟨w.heap.size,0,none⟩))) fun t ht g hg=>hA g (dK hf t ht g hg)).alloc us t;exact h2.weak fun F hp=>⟨F,fun _ h=>h,w.heap.size,us,aV _ _,hu.congr fun g hg=>hA g (hc g hg),h1,hp⟩
theorem nD:∀{l:List SV},l.all kg=true->bH l []=[]
 |[],_=>rfl
 |s::l,h=>by
  rw[List.all_cons,qD]at h;unfold bH;rw[nD h.2];cases s<;>first|rfl|cases h.1
theorem wL{x:Operand}{s:SV}(h:evs env g x=some s){d:Nat}(hf:au d env rs=true):∀q∈s.names [],q % 1000000≠d:=by
 intro q hq;cases x with
 |tmp t=>
  unfold evs at h;simp only at h;cases hl:lk env t with
  |none=>rw[hl]at h;simp at h
  |some u=>
   have hu:=jP hf t u hl;rw[hl]at h;cases u
   case gd d' b y=>
    simp only at h;split at h
    .rename_i d1 b1;cases hb:(Nat.beq d' d1&&(b==b1))with
     |false=>rw[hb]at h;cases h
     |true=>
      rw[hb]at h;injection h with h
      subst h;exact hu q (by simpa[SV.names]using hq)
    .cases h
   all_goals
    simp only[Option.some.injEq]at h;subst h;exact hu q hq
 |const c=>
  unfold evs at h;simp only at h;split at h<;>first|(simp only[Option.some.injEq]at h;subst h;simp[SV.names]at hq)|(simp at h)
 |func f=>
  unfold evs at h;simp only[Option.some.injEq]at h;subst h;simp[SV.names,bH]at hq
 |global i=>simp[evs]at h
theorem xu(hti:bE P ti=true){d:Nat}(hd:d<1000000)(hf:au d env rs=true)(hH:Inv cx.w0 cx.F0 w (rs.map (Tok.res cx β)++fr)){t:TypeId}{x:gI}(hl:lk ti t=some x){dst:Option Nat}{ty:TypeId}{pos:String}{aft:Array Edge}{gd:Option (Nat×Bool)}:
  Ab P cx β fr a w d ⟨dst,.alloc t,ty,pos,aft,gd⟩ (.ptr d 0) (.dn d t (eH x)::rs):=by
 obtain⟨h1,_,h2⟩:=iG hti hl;obtain⟨h3,h4⟩:=lV (cx:=cx) (β:=β) h1;obtain⟨k1,k2,k3⟩:=vO (t:=t) hd hf hH (fun g hg=>by rw[nD h1]at hg;simp at hg) h3 h4;exact .inl ⟨_,_,_,AL h2,k1,k2,k3⟩
theorem wo{d:Nat}(hd:d<1000000)(hf:au d env rs=true)(hH:Inv cx.w0 cx.F0 w (rs.map (Tok.res cx β)++fr)){t:TypeId}{x:Operand}{s:SV}{y:Value}(hx:a.eval x=y)(hs:Den cx β s y){cs:List SV}{us:aO}(hy:y.cells=us.toArray)(hc:ah cx β cs us)(h1:us.all (·.oneCell')=true)(hn:∀g∈bH cs [],g % 1000000≠d)
  {dst:Option Nat} {ty:TypeId} {pos:String} {aft:Array Edge} {gd:Option (Nat×Bool)}:Ab P cx β fr a w d ⟨dst,.box t x,ty,pos,aft,gd⟩ (.ptr d 0) (.dn d t cs::rs):=by
 obtain⟨k1,k2,k3⟩:=vO (t:=t) hd hf hH hn hc h1;exact .inl ⟨_,_,_,DN hx hy,k1,k2,k3⟩
theorem vQ{d:Nat}{e:TypeId}{s:Nat}{u:U}{xs:List (El u)}{us:aO}{rs':List Tok}{cur:Array Value}{m:Nat}(hd:d<1000000)(hn:∀t∈rs',∀g∈t.names [],g % 1000000≠d)(hus:u.size=s)(hm:m<=maxLen)(hcur:cur.size=m*s)(hl:xs.length<=m)(htk:cur.toList.take (xs.length*s)=us)
  (hH:Inv cx.w0 cx.F0 w (aL us (xs.flatMap (enc u))::(rs'.map (Tok.res cx β)++fr))):
  lN d β (up β d (.slice (some ⟨w.heap.size,0,none⟩) xs.length m))/\Den cx (up β d (.slice (some ⟨w.heap.size,0,none⟩) xs.length m)) (.sl d) (.slice (some ⟨w.heap.size,0,none⟩) xs.length m)/\
   Inv cx.w0 cx.F0 (w.alloc (.cells cur e)) ((Tok.row d e s u xs []::rs').map (Tok.res cx (up β d (.slice (some ⟨w.heap.size,0,none⟩) xs.length m)))++fr):=by
 have hA:=fV (β:=β) hd (.slice (some ⟨w.heap.size,0,none⟩) xs.length m);refine⟨hA,by unfold Den;exact⟨(aV _ _).symm,_,_,_,rfl⟩,?_⟩
 have h0:Inv cx.w0 cx.F0 w (aL us (xs.flatMap (enc u))::(rs'.map (Tok.res cx (up β d (.slice (some ⟨w.heap.size,0,none⟩) xs.length m)))++fr)):=by
  have h1:Inv cx.w0 cx.F0 w (rs'.map (Tok.res cx β)++(aL us (xs.flatMap (enc u))::fr)):=hH.perm List.perm_middle.symm;exact(h1.beta fun t ht g hg=>hA g (hn t ht g hg)).perm List.perm_middle
 have h2:=h0.alloc cur.toList e;simp only[Array.toArray_toList]at h2;obtain⟨F1,F2,⟨rfl,h3⟩,⟨h4,h5⟩,h6,h7⟩:=h2.take2;refine h7 _ ([w.heap.size]++F2) (fun b hb=>by simpa using hb) ⟨hus,F2,us,?_,?_⟩
 .rw[aV];rfl
 .rw[aV];have hsz:=h4.length;refine⟨⟨⟨?_,.inr ⟨w.heap.size,m,cur,rfl,Nat.zero_le _,by simpa using h3,hl,hm,hcur,htk⟩⟩,h4,h5,fun k hk hm=> ?_⟩,nP⟩
  .rw[hsz,aC,hus]
  .injection hk with hk
   subst hk;exact h6 _ (by simp) hm
theorem vF{s:Nat}:∀(vs:aO) (uss:List (aO)) (k:Nat) (cells:Array Value),F2 (fun v us=>Value.cells v=List.toArray us/\us.length=s) vs uss->(k+vs.length)*s<=cells.size->
  ∃r,Instr.fill (fun i=>some (i*s,s)) cells ((vs.zipIdx k).map fun x=>(x.2,x.1))=some r/\r.toList=cells.toList.take (k*s)++uss.flatten++cells.toList.drop ((k+vs.length)*s)
 |[],[],k,cells,_,h=>⟨cells,rfl,by simp⟩
 |v::vs,us::uss,k,cells,.cons ⟨h1,h2⟩ h3,h=>by
  simp only[qI]at h
  have hle:k*s+s<=cells.size:=by
   have:(k+(vs.length+1))*s=k*s+s+vs.length*s:=by rw[Nat.add_mul,Nat.add_mul];omega
   omega
  have hz:(v.cells.zipIdx.foldl (fun cs (c,j)=>cs.setIfInBounds (k*s+j) c) cells).toList=cells.toList.take (k*s)++us++cells.toList.drop (k*s+s):=by
   have:=foldl_set us 0 (k*s) cells (by omega);rw[h1,<-Array.foldl_toList,Array.toList_zipIdx];simpa[h2]using this
  have hsz:(v.cells.zipIdx.foldl (fun cs (c,j)=>cs.setIfInBounds (k*s+j) c) cells).size=cells.size:=by
   rw[<-Array.length_toList,hz];simp;omega
  obtain⟨r,k1,k2⟩:=vF vs uss (k+1) _ h3 (by(rw[hsz];have:k+1+vs.length=k+(vs.length+1):=by omega);rw[this];exact h);refine⟨r,?_,?_⟩
  .rw[List.zipIdx_cons,List.map_cons];unfold Instr.fill;simp only;rw[if_neg (by rw[h1];simp;omega)];exact k1
  .rw[k2,hz];have e1:(k+1)*s=k*s+s:=by rw[Nat.add_mul];omega
   have e2:(k+1+vs.length)*s=k*s+s+vs.length*s:=by rw[Nat.add_mul,Nat.add_mul];omega
   have e3:(k+(vs.length+1))*s=k*s+s+vs.length*s:=by rw[Nat.add_mul,Nat.add_mul];omega
   rw[e1,e2,qI,e3]
   have hlen:(cells.toList.take (k*s)++us).length=k*s+s:=by
    rw[qA,List.length_take,h2,Array.length_toList];omega
   have t1:(cells.toList.take (k*s)++us++cells.toList.drop (k*s+s)).take (k*s+s)=cells.toList.take (k*s)++us:=by
    rw[<-hlen];exact List.take_left
   have t2:(cells.toList.take (k*s)++us++cells.toList.drop (k*s+s)).drop (k*s+s+vs.length*s)=cells.toList.drop (k*s+s+vs.length*s):=by
    rw[List.drop_append,hlen,List.drop_drop,List.drop_eq_nil_of_le (by rw[hlen];omega),List.nil_append]
    congr 1
    omega
   rw[t1,t2,List.flatten_cons];simp only[qF]
theorem uR{t e s m:Nat}(hE:fH P t e s){vs:aO}{uss:List (aO)}(hm:vs.length=m)(hb:m*s<=16777216)(hv:F2 (fun v us=>Value.cells v=List.toArray us/\us.length=s) vs uss)(w:World):
  (Instr.buildSlice t m ((vs.zipIdx.map fun x=>(x.2,x.1)).toArray)).run P w=.ok (.slice (some ⟨w.heap.size,0,none⟩) m m) (w.alloc (.cells uss.flatten.toArray e)):=by
 obtain⟨i,z,h1,h2,h3,h4,h5⟩:=hE.i;have hp:=hE.p
 have hfl:∀cells:Array Value,cells.size=m*s->Instr.fill (fun i=>some (i*s,s)) cells (vs.zipIdx.map fun x=>(x.2,x.1))=some uss.flatten.toArray:=fun cells hc=>by
  obtain⟨r,k1,k2⟩:=vF vs uss 0 cells hv (by rw[Nat.zero_add,hm,hc];exact Nat.le_refl _);rw[k1]
  congr 1
  apply Array.toList_inj.1;rw[k2];simp[hm,hc]
 have hz:(zeroValue e).run P w=.ok z w:=by simp[zeroValue,typeInfo,h1,h2]
 by_cases h0:m*s=0
 .simp[Instr.buildSlice,run_underlying hE.u,sizeOf,typeInfo,h1,h3,h0,hfl _ (show(Array.map (fun _=>(default:Value)) (Array.range 0)).size=m*s by simp[h0]),newRow,Array.range_zero'];rw[show(Instr.fill (fun i=>some (i*s,s)) #[] (vs.zipIdx.map fun x=>(x.2,x.1)))=some uss.flatten.toArray from hfl #[] (by simp[h0])];simp[newRow]
 .have hn:¬(16777216<m*s):=by omega
  simp[Instr.buildSlice,run_underlying hE.u,sizeOf,typeInfo,h1,h3,h0,hn,hz,newRow];rw[hfl _ (by simp)];simp[newRow]
end
end Go.Tr
namespace Go.Tr
open Go Go.RowKit
universe u
section
variable {cx:Cx}{β β':Nat->Value}{P:Program}{ti:TI}{n:Nat}{a:Act}{env:Ev}{rs:List Tok}{fr:List aM}{w w':World}{g:Option (Nat×Bool)}{v:SV}
 {dst:Option Nat} {ty:TypeId} {pos:String} {aft:Array Edge} {gd:Option (Nat×Bool)}
theorem ou(E:bW cx β n a env)(hg:dz a g):∀{l:List (Nat×Operand)} {k:Nat} {css:List (List SV)},iU env g l k=some css->
  ∃vs uss,l.map (fun x=>(x.1,a.eval x.2))=(vs.zipIdx k).map (fun x=>(x.2,x.1))/\vs.length=css.length/\F2 (fun v us=>Value.cells v=List.toArray us) vs uss/\F2 (fun cs us=>ah cx β cs us) css uss
 |[],k,css,h=>by
  unfold iU at h;injection h with h
  subst h;exact⟨[],[],rfl,rfl,.nil,.nil⟩
 |(i,x)::l,k,css,h=>by
  unfold iU at h;cases hb:Nat.beq i k with
  |false=>rw[hb]at h;cases h
  |true=>
   rw[hb]at h;have:=ak hb;subst this;simp only[qG]at h;cases h1:evs env g x with
   |none=>rw[h1]at h;simp at h
   |some s=>
    cases h2:iU env g l (i+1)with
    |none=>rw[h1,h2]at h;simp at h
    |some r=>
     rw[h1,h2]at h;simp only[Option.some.injEq]at h;subst h;obtain⟨y,h3,h4⟩:=aj E hg h1;obtain⟨us,h5,h6⟩:=lS h4;obtain⟨vs,uss,k1,k2,k3,k4⟩:=ou E hg h2;exact⟨y::vs,us::uss,by rw[List.map_cons,k1,List.zipIdx_cons,List.map_cons,h3],by simp[k2],.cons h5 k3,.cons h6 k4⟩
theorem vE{α γ:Type u}{R:α->γ->Prop}{q:γ->Prop}:∀{l:List α} {m:List γ},F2 R l m->(∀b∈m,q b)->F2 (fun a b=>R a b/\q b) l m
 |[],[],_,_=>.nil
 |_::_,_::_,.cons h1 h2,h=>.cons ⟨h1,h _ (by simp)⟩ (vE h2 fun b hb=>h b (by simp[hb]))
theorem bn{d:Nat}(hf:au d env rs=true){rs':List Tok}(hs:∀t∈rs',t∈rs):∀t∈rs',∀g∈t.names [],g % 1000000≠d:=fun t ht=>dK hf t (hs t ht)
def nI(P:Program)(env:Ev)(rs:List Tok)(g:Option (Nat×Bool))(d:Nat)(o:Oper)(v:SV)(rs':List Tok):Prop:=∀(cx:Cx) (β:Nat->Value) (n:Nat) (fr:List aM) (a:Act) (w:World),bW cx β n a env->dz a g->Inv cx.w0 cx.F0 w (rs.map (Tok.res cx β)++fr)->Ab P cx β fr a w d o v rs'
theorem nI.perm{rs rs0 rs' rs1:List Tok}{d:Nat}{o:Oper}{v:SV}(h:nI P env rs g d o v rs')(h1:rs.Perm rs0)(h2:rs'.Perm rs1):nI P env rs0 g d o v rs1:=fun cx β n fr a w E hG hI=>by
 rcases h cx β n fr a w E hG (hI.aY h1.symm)with⟨x,w',β',k1,k2,k3,k4⟩|⟨f,args,k1,k2⟩
 .exact .inl ⟨x,w',β',k1,k2,k3,k4.aY h2⟩
 .exact .inr ⟨f,args,k1,k2.mono fun e w' ⟨x,β',k3,k4,k5,k6⟩=>⟨x,β',k3,k4,k5,k6.aY h2⟩⟩
theorem mX(hti:bE P ti=true){d:Nat}(hd:d<1000000)(hf:au d env rs=true){t m e s:Nat}{u:U}{u0:U}(hl:lk ti t=some (.sl e s u0))(hus:u.size=s){ps:Array (Nat×Operand)}{css:List (List SV)}
  (hp:iU env g ps.toList 0=some css) (hm:css.length=m) (hb:m*s<=16777216) {K:List (El u)->List Tok->Prop} (h:wP u css rs K):∃xs rs',K xs rs'/\nI P env rs g d ⟨dst,.buildSlice t m ps,ty,pos,aft,gd⟩ (.sl d) (.row d e s u xs []::rs'):=by
 obtain⟨xs,rs',k1,k5,k2,k34⟩:=vK h;refine⟨xs,rs',k1,fun cx β n fr a w E hg hH=> ?_⟩;obtain⟨vs,uss,h1,h2,h3,h4⟩:=ou E hg hp;obtain⟨k3,k4⟩:=k34 cx β w _ _ uss fr h4 hH;have hE:=dR hti hl;have hv:=vE (q:=fun us=>us.length=s) h3 (fun us hu=>(k3 us hu).trans hus);have hvl:vs.length=m:=h2.trans hm
 have hps:(ps.map fun(i,x)=>(i,a.eval x))=(vs.zipIdx.map fun x=>(x.2,x.1)).toArray:=by
  apply Array.toList_inj.1;rw[Array.toList_map];exact h1
 have hfl:uss.flatten.length=m*s:=by
  have:∀{vs:List Value} {uss:List (List Value)},F2 (fun v us=>Value.cells v=List.toArray us/\us.length=s) vs uss->uss.flatten.length=vs.length*s:=by
   intro vs uss h
   induction h with
   |nil=>simp
   |cons h _ ih=>simp[h.2,ih,Nat.add_mul];omega
  rw[this hv,hvl]
 have hpos:=hE.p
 have hml:m<=maxLen:=by
  have:m*1<=m*s:=Nat.mul_le_mul_left m hpos;have:maxLen=9223372036854775807:=rfl;omega
 obtain⟨q1,q2,q3⟩:=vQ (e:=e) (cur:=uss.flatten.toArray) (m:=m) hd (bn hf k5) hus hml (by simpa using hfl) (by omega) (by
  rw[k2,hm,<-hfl];exact List.take_length) k4
 rw[k2,hm]at q1 q2 q3;exact .inl ⟨_,_,_,zh hps (uR hE hvl hb hv w),q1,q2,q3⟩
theorem yF{w0:World}{F0:aK}{x:Value}{e s q:Nat}{es:List D}{R:List aM}(h:Inv w0 F0 w (Gr x e s q es::R)):∃A c us,x=.slice A q c/\Src w s A q us/\Inv w0 F0 w (aL us es::R):=by
 obtain⟨F,⟨bs,us,rfl,hg⟩,h3,_⟩:=h.take1;have hI:Inv w0 F0 w (aL us es::R):=h3 _ bs (fun b hb=>by simp[hb]) ⟨hg.tn,hg.own⟩;have h1:=hg.tn.sH;rcases hg.row.2 with⟨rfl,rfl⟩|⟨b,cap,cur,rfl,_,hb,hn,hc,hs,ht⟩
 .exact⟨none,0,us,rfl,⟨hg.row.1,fun h=>absurd h (by omega),h1⟩,hI⟩
 .refine⟨_,cap,us,rfl,⟨hg.row.1,fun _=>⟨_,rfl,fun j u hu=> ?_⟩,h1⟩,hI⟩;have hadd:(⟨b,0,none⟩:Addr).add j=⟨b,j,none⟩:=by unfold Addr.add;split<;>simp_all
  rw[hadd,cell_of_row w b j cur e (0,0) hb];rw[<-ht,List.getElem?_take]at hu;split at hu
  .simpa using hu
  .cases hu
theorem Inv.nR{w0:World}{F0:aK}{v:Value}{t:TypeId}{s m:Nat}{ds:List D}{R:List aM}(h:Inv w0 F0 w (Gr v t s m ds::R)):Inv w0 F0 w (kD v t s m ds []::R):=h.weak fun F hp=>⟨F,fun _ h=>h,Ci hp⟩
theorem Inv.kU{w0:World}{F0:aK}{v:Value}{t:TypeId}{s m:Nat}{ds:List D}{pre:aO}{R:List aM}(h:Inv w0 F0 w (kD v t s m ds pre::R)):Inv w0 F0 w (Gr v t s m ds::R):=h.weak fun F hp=>⟨F,fun _ h=>h,yG hp⟩
theorem dh{w0:World}{F0:aK}{k:Nat}{t:TypeId}{s:Nat}{u:U}{xs:List (El u)}{us:aO}{R:List aM}(h:Inv w0 F0 w (Tok.res cx β (.row k t s u xs us)::R)):u.size=s/\Inv w0 F0 w (kD (β k) t s xs.length (xs.flatMap (enc u)) us::R):=by
 obtain⟨F,h1,h2,h3⟩:=h.take1;exact⟨h1.1,h2 _ F (fun _ h=>h) h1.2⟩
theorem rF{w0:World}{F0:aK}{v:Value}{m tS e s q c:Nat}{ds es:List D}{us pre:aO}{A:Option Addr}{R:List aM}(hE:fH P tS e s)(H:Inv w0 F0 w (kD v e s m ds pre::aL us es::R))(hsrc:Src w s A q us)(hb:m+q<=1073741824):
  ∃v' w',(Builtin.append_ #[tS,tS] ty #[v,.slice A q c]).run P w=.ok v' w'/\(∃A' c',v'=.slice A' (m+q) c')/\Inv w0 F0 w' (kD v' e s (m+q) (ds++es) pre::R):=by
 obtain⟨F,⟨F1,G1,rfl,⟨bs,ug,rfl,hg,hpre⟩,⟨F2,G2,rfl,⟨k1,k2⟩,rfl,_⟩,hd⟩,_,h4⟩:=Inv.frame (pre:=[kD v e s m ds pre,aL us es]) (rest:=R) H;rw[qS]at hd h4;obtain⟨v',w',hrun,h5,h6,h7,_⟩:=sZ (P:=P) (ty:=ty) hE 0 v m ug hg.row A q c us hsrc hb (Nat.zero_le _);have hdr:∀g,v.ownBlock=some g->g∉F2:=fun g hg' hm=>hd g (by simp[dD,hg']) hm
 have hgr:=hg.app k1 k2 (fun y hy hm=>hd y (by simp[hy]) hm) hdr h5 h6 h7;refine⟨v',w',hrun,wU h5,h4 w' [_] ⟨⟨h6.os,h6.tape,h6.output,h6.size,fun b hb hn=>h6.block b hb (fun e=>hn (by simp[dD,<-e]))⟩,jD v'++(bs++F2),⟨_,[],by simp,⟨bs++F2,_,rfl,hgr,hpre.trans (List.prefix_append _ _)⟩,rfl,by simp⟩,fun b hb=> ?_⟩⟩;simp only[qT,dD]at hb |-;rcases hb with hb|hb|hb
 .rcases h7 with h8|h8
  .exact .inl (.inl (.inl (by rw[<-h8];exact hb)))
  .rw[h8]at hb;injection hb with hb;exact .inr (by omega)
 .exact .inl (.inl (.inr hb))
 .exact .inl (.inr hb)
theorem jM{d:Nat}(hd:d<1000000){t e s:Nat}(hE:fH P t e s){u:U}{xs ys:List (El u)}{x y:Operand}{v1 v2:Value}{rs':List Tok}(hn:∀t∈rs',∀g∈t.names [],g % 1000000≠d)(hus:u.size=s)(h1:a.eval x=v1)(h2:a.eval y=v2){us:aO}{A:Option Addr}{c q:Nat}(hy:v2=.slice A q c)(hq:ys.length=q)(hb:xs.length+ys.length<=1073741824)(hs:Src w s A q us)
  {pre:List Value} (hI:Inv cx.w0 cx.F0 w (kD v1 e s xs.length (xs.flatMap (enc u)) pre::aL us (ys.flatMap (enc u))::(rs'.map (Tok.res cx β)++fr))):
  Ab P cx β fr a w d ⟨dst,.call ⟨.builtin .append, #[x,y], #[t,t]⟩,ty,pos,aft,gd⟩ (.sl d) (.row d e s u (xs++ys) pre::rs'):=by
 subst hy;obtain⟨v',w',hrun,⟨A',c',rfl⟩,hI'⟩:=rF (ty:=ty) (c:=c) hE hI hs (by omega);have hA:=fV (β:=β) hd (.slice A' (xs.length+q) c');refine .inl ⟨_,w',up β d (.slice A' (xs.length+q) c'),BD h1 h2 hrun,hA,by unfold Den;exact⟨(aV _ _).symm,_,_,_,rfl⟩,?_⟩;have h0:Inv cx.w0 cx.F0 w' (rs'.map (Tok.res cx β)++(kD (.slice A' (xs.length+q) c') e s (xs.length+q) (xs.flatMap (enc u)++ys.flatMap (enc u)) pre::fr)):=hI'.perm List.perm_middle.symm;have h3:=(h0.beta (β':=up β d (.slice A' (xs.length+q) c')) fun t ht g hg=>hA g (hn t ht g hg)).perm List.perm_middle
 refine h3.weak fun F hp=>⟨F,fun _ h=>h,hus,?_⟩
 rw[aV,List.flatMap_append,qA,hq];exact hp
theorem gP:∀(u:U) (x:El u) {bs:aK} {us:aO},bf u=true->TN w (enc u x) bs us->bs=[]
 | .int _,x,bs,us,_,h| .bool,x,bs,us,_,h| .str,x,bs,us,_,h| .any,x,bs,us,_,h=>by
  obtain⟨b1,b2,u,us',rfl,rfl,h2,h3⟩:=TN.cons.1 h;obtain⟨_,rfl,_⟩:=T1.v.1 h2;obtain⟨_,rfl⟩:=TN.nil.1 h3;rfl
 | .sl _,x,bs,us,hf,h=>by cases hf
 | .tree _,x,bs,us,hf,h=>by cases hf
 | .pair a b,x,bs,us,hf,h=>by
  unfold bf at hf;rw[qD]at hf;obtain⟨b1,b2,u1,u2,rfl,rfl,h1,h2⟩:=TN.append.1 h;rw[gP a x.1 hf.1 h1,gP b x.2 hf.2 h2];rfl
theorem iy(u:U)(hf:bf u=true):∀(xs:List (El u)) {bs:aK} {us:aO},TN w (xs.flatMap (enc u)) bs us->bs=[]
 |[],bs,us,h=>(TN.nil.1 h).2
 |x::xs,bs,us,h=>by
  rw[qU]at h;obtain⟨b1,b2,u1,u2,rfl,rfl,h1,h2⟩:=TN.append.1 h;rw[gP u x hf h1,iy u hf xs h2];rfl
theorem ql{R:List aM}{u:U}{ys:List (El u)}{v:Value}(hf:bf u=true)(h:dB cx.w0 cx.F0 (.sl ys.length (ys.flatMap (enc u))) v)(H:Inv cx.w0 cx.F0 w R):∃A c us,v=.slice A ys.length c/\Src w u.size A ys.length us/\Inv cx.w0 cx.F0 w (aL us (ys.flatMap (enc u))::R):=by
 obtain⟨A,c,rfl⟩:=h.slice;obtain⟨bs,h1⟩:=h.now H;obtain⟨us,bs',h2,h3,_⟩:=h1.src (aC u ys);have:=iy u hf ys h3;subst this;refine⟨A,c,us,rfl,h2,H.new (ss:=[aL us (ys.flatMap (enc u))]) ⟨iH.refl _ _,[],?_,by simp⟩⟩;exact⟨[],[],rfl,⟨h3,Own.nil _ _⟩,rfl,by simp⟩
theorem zK{u:U}:∀(ys:List (El u)) {us:aO},eO cx.w0 cx.F0 (List.flatMap (enc u) ys) us->ah cx β (List.flatMap (aW u) ys) us
 |[],us,h=>by
  obtain⟨bs,h1,_⟩:=h;obtain⟨rfl,_⟩:=TN.nil.1 h1;unfold List.flatMap ah;rfl
 |y::ys,us,h=>by
  rw[qU]at h |-;obtain⟨u1,u2,rfl,h1,h2⟩:=eO.append h;exact(dU u y h1).app (zK ys h2)
theorem zM{us:aO}(h:us.all (·.oneCell')=true):TN w (us.map D.v) [] us:=by
 induction us with
 |nil=>exact TN.done
 |cons u us ih=>
  simp only[List.all_cons,qD]at h;exact TN.uY h.1 (ih h.2)
theorem zx{R:List aM}{u:U}{ys:List (El u)}{v:Value}(h:dB cx.w0 cx.F0 (.sl ys.length (ys.flatMap (enc u))) v)(H:Inv cx.w0 cx.F0 w R):∃A c us,v=.slice A ys.length c/\Src w u.size A ys.length us/\ah cx β (List.flatMap (aW u) ys) us:=by
 obtain⟨A,c,rfl⟩:=h.slice;obtain⟨bs,h1,h2⟩:=h;unfold T1 at h1;obtain⟨A',c',he,hn,hc,h1⟩:=h1;injection he with hA _ _
 subst hA;rcases h1 with⟨e1,e2,rfl⟩|⟨h0,b,off,us,bs',rfl,rfl,hb,hca,ht⟩
 .have hy:ys=[]:=List.eq_nil_of_length_eq_zero e1;subst hy;exact⟨A,c,[],rfl,⟨by simp,by simp,rfl⟩,by unfold List.flatMap ah;rfl⟩
 .have hk:w.heap[b]? =cx.w0.heap[b]? :=H.gM.other b hb (h2 b (by simp));refine⟨_,c,us,rfl,⟨by rw[ht.length,aC],fun _=>⟨_,rfl,fun j x hx=> ?_⟩,ht.sH⟩,zK ys ⟨bs',ht,fun y hy=>h2 y (by simp[hy])⟩⟩;have hadd:(⟨b,off,none⟩:Addr).add j=⟨b,off+j,none⟩:=by unfold Addr.add;split<;>simp_all
  rw[hadd,World.cell?_of_block hk];exact hca j x hx
theorem kY{d:Nat}(hd:d<1000000){t e s:Nat}(hE:fH P t e s){u:U}{xs ys:List (El u)}{x y:Operand}{v1 v2:Value}{rs':List Tok}(hn:∀t∈rs',∀g∈t.names [],g % 1000000≠d)(hus:u.size=s)(h1:a.eval x=v1)(h2:a.eval y=v2)(hb:xs.length+ys.length<=1073741824)
  {us:List Value} (hD:ah cx β (List.flatMap (aW u) xs) us) (hro:dB cx.w0 cx.F0 (.sl ys.length (ys.flatMap (enc u))) v2) (h1c:us.all (·.oneCell')=true)
  (hI:Inv cx.w0 cx.F0 w (kD v1 e s xs.length (us.map D.v) []::(rs'.map (Tok.res cx β)++fr))):
  Ab P cx β fr a w d ⟨dst,.call ⟨.builtin .append, #[x,y], #[t,t]⟩,ty,pos,aft,gd⟩ (.sl d) (.dat d e s u (xs++ys)::rs'):=by
 obtain⟨A,c,us2,rfl,j2,j3⟩:=zx (β:=β) hro hI;have hI1:Inv cx.w0 cx.F0 w (aL us2 (us2.map D.v)::(kD v1 e s xs.length (us.map D.v) []::(rs'.map (Tok.res cx β)++fr))):=hI.new (ss:=[aL us2 (us2.map D.v)]) ⟨iH.refl _ _,[],⟨[],[],rfl,⟨zM j2.one,Own.nil _ _⟩,rfl,by simp⟩,by simp⟩;rw[hus]at j2;obtain⟨v',w',hrun,⟨A',c',rfl⟩,hI'⟩:=rF (ty:=ty) (c:=c) hE hI1.swap j2 hb;have hA:=fV (β:=β) hd (.slice A' (xs.length+ys.length) c');refine .inl ⟨_,w',up β d (.slice A' (xs.length+ys.length) c'),BD h1 h2 hrun,hA,by unfold Den;exact⟨(aV _ _).symm,_,_,_,rfl⟩,?_⟩
 have h0:Inv cx.w0 cx.F0 w' (rs'.map (Tok.res cx β)++(kD (.slice A' (xs.length+ys.length) c') e s (xs.length+ys.length) (us.map D.v++us2.map D.v) []::fr)):=hI'.perm List.perm_middle.symm;have h3:=(h0.beta (β':=up β d (.slice A' (xs.length+ys.length) c')) fun t ht g hg=>hA g (hn t ht g hg)).perm List.perm_middle;refine h3.weak fun F hp=>⟨F,fun _ h=>h,hus,us++us2,?_,by rw[List.all_append,h1c,j2.one];rfl,?_⟩
 .rw[List.flatMap_append];exact(hD.kI (β':=_)).app j3.kI
 .rw[aV,qA,qZ];exact hp
theorem sV{w0:World}{F0:aK}{R:List aM}{k:Nat}{e:TypeId}{s:Nat}{u:U}{ys:List (El u)}{pre:aO}(H:Inv w0 F0 w (Tok.res cx β (.row k e s u ys pre)::R)){b z m c:Nat}(hb:β k=.slice (some ⟨b,z,none⟩) m c):z=0:=by
 obtain⟨F,⟨hus,bs,us,rfl,hg,_⟩,_⟩:=H.take1;rcases hg.row.2 with⟨e1,_⟩|⟨g,cap,cur,e1,_⟩
 .rw[hb]at e1;cases e1
 .rw[hb]at e1;injection e1 with e1
  injection e1 with e1
  injection e1
theorem Dq{w0:World}{F0:aK}{R:List aM}{k:Nat}{e:TypeId}{s:Nat}{u:U}{ys:List (El u)}(H:Inv w0 F0 w (Tok.res cx β (.dat k e s u ys)::R)){b z m c:Nat}(hb:β k=.slice (some ⟨b,z,none⟩) m c):z=0:=by
 obtain⟨F,⟨hus,us,_,_,bs,_,rfl,hg,_⟩,_⟩:=Inv.take1 (r:=Tok.res cx β (.dat k e s u ys)) H;rcases hg.row.2 with⟨e1,_⟩|⟨g,cap,cur,e1,_⟩
 .rw[hb]at e1;cases e1
 .rw[hb]at e1;injection e1 with e1
  injection e1 with e1
  injection e1
theorem wB{R:List aM}{k:Nat}{e:TypeId}{s lo n:Nat}{u:U}{ys:List (El u)}{pre:aO}(hf:bf u=true)(hle:lo+n<=ys.length)(H:Inv cx.w0 cx.F0 w (Tok.res cx β (.row k e s u ys pre)::R)){b m c o:Nat}(hb:β k=.slice (some ⟨b,0,none⟩) m c)(ho:0<n->o=lo*s):
  ∃us,Src w s (some ⟨b,o,none⟩) n us/\TN w (((ys.drop lo).take n).flatMap (enc u)) [] us:=by
 obtain⟨F,⟨hus,bs,us,rfl,hg,_⟩,_⟩:=H.take1;have ht:=hg.tn;have e1:ys=ys.take lo++((ys.drop lo).take n++(ys.drop lo).drop n):=by rw[List.take_append_drop,List.take_append_drop]
 rw[e1,List.flatMap_append,List.flatMap_append]at ht;obtain⟨b1,b2,u1,u2,rfl,rfl,t1,t2⟩:=TN.append.1 ht;obtain⟨b3,b4,u3,u4,rfl,rfl,t3,t4⟩:=TN.append.1 t2;have hb3:=iy u hf _ t3;subst hb3;have l1:u1.length=lo*s:=by rw[t1.length,aC,List.length_take,Nat.min_eq_left (by omega),hus]
 have l3:u3.length=n*s:=by rw[t3.length,aC,List.length_take,List.length_drop,Nat.min_eq_left (by omega),hus]
 refine⟨u3,⟨l3,fun hn=>⟨_,rfl,fun j x hx=> ?_⟩,t3.sH⟩,t3⟩;have ho:=ho hn;subst ho;rcases hg.row.2 with⟨q1,q2⟩|⟨b',cap,cur,q1,_,q2,q3,q4,q5,q6⟩
 .rw[hb]at q1;cases q1
 .rw[hb]at q1;injection q1 with q1 _ _
  injection q1 with q1
  injection q1 with q1 _
  subst q1;have hadd:∀q:Nat,(⟨b,q,none⟩:Addr).add j=⟨b,q+j,none⟩:=fun q=>Addr.add_mid _ _ _
  rw[hadd,cell_of_row w b (lo*s+j) cur e (0,0) q2];have hj:j<u3.length:=(qE.1 hx).1
  have hx2:(u1++(u3++u4))[lo*s+j]? =some x:=by
   rw[<-l1,qL (by omega),Nat.add_sub_cancel_left,qM hj];exact hx
  rw[<-q6,List.getElem?_take]at hx2;split at hx2
  .simpa using hx2
  .cases hx2
theorem Af(hti:bE P ti=true){d:Nat}(hd:d<1000000)(hf:au d env rs=true){args:Array Operand}{tys:Array TypeId}{K:SV->List Tok->Prop}
  (h:BN P ti env rs g d ⟨.builtin .append,args,tys⟩ K):∃v rs',K v rs'/\nI P env rs g d ⟨dst,.call ⟨.builtin .append,args,tys⟩,ty,pos,aft,gd⟩ v rs':=by
 unfold BN at h;simp only at h;split at h
 .rename_i x y t t' hx hy;have har:args= #[x,y]:=by simpa using congrArg List.toArray hx
  have hty:tys= #[t,t']:=by simpa using congrArg List.toArray hy
  subst har hty;cases hb:Nat.beq t t' with
  |false=>rw[hb]at h;exact h.elim
  |true=>
   rw[hb]at h;have:=ak hb;subst this;simp only[qG]at h;split at h
   .rename_i e s u q k hl hx hy;obtain⟨e1,s1,u1,xs,us1,rs1,h3,p1⟩:=aH h;obtain⟨e2,s2,u2,ys,_,rs2,h4,p2⟩:=aH h3;cases hc:(Nat.beq e1 e&&Nat.beq s1 s&&Nat.beq s2 s)with
    |false=>rw[hc]at h4;exact h4.elim
    |true=>
     rw[hc]at h4;simp only[qD]at hc;have c1:=ak hc.1.1;have c2:=ak hc.1.2;have c3:=ak hc.2;subst c1 c2 c3;simp only[qG]at h4;split at h4
     .rename_i hu;have hue:=aB hu;subst hue;obtain⟨hle,hK⟩:=h4;refine⟨_,_,hK,fun cx β n fr a w E hg hH=> ?_⟩;obtain⟨v1,h1,d1⟩:=aj E hg hx;obtain⟨v2,h2,d2⟩:=aj E hg hy;unfold Den at d1 d2;obtain⟨d1,_⟩:=d1;obtain⟨d2,_⟩:=d2;obtain⟨k1,k2⟩:=dh (hH.aY p1);obtain⟨_,k3⟩:=dh (((Inv.swap ((k2.perm ((List.Perm.cons _ ((p2.map _).append_right fr))))))));obtain⟨A,c,us,j1,j2,j3⟩:=yF k3.kU;refine jM hd (dR hti hl) (bn hf fun t ht=>p1.mem_iff.2 (List.mem_cons_of_mem _ (p2.mem_iff.2 (List.mem_cons_of_mem _ ht)))) k1 h1 h2 (d2.trans j1) rfl hle j2 ?_
      rw[d1];exact Inv.swap j3
     .exact h4.elim
   .rename_i e s u k hl hx hy;obtain⟨e2,s2,u2,ys,_,rs2,h4,p2⟩:=aH h;cases hc:Nat.beq s2 s with
    |false=>rw[hc]at h4;exact h4.elim
    |true=>
     rw[hc]at h4;have c1:=ak hc;subst c1;obtain⟨hle,hK⟩:=h4;refine⟨_,_,hK,fun cx β n fr a w E hg hH=> ?_⟩;obtain⟨v1,h1,d1⟩:=aj E hg hx;obtain⟨v2,h2,d2⟩:=aj E hg hy;unfold Den at d1 d2;obtain⟨d1,_⟩:=d1;obtain⟨d2,_⟩:=d2;obtain⟨k1,k2⟩:=dh (hH.aY p2);obtain⟨A,c,us,j1,j2,j3⟩:=yF k2.kU
     exact jM (P:=P) (β:=β) (fr:=fr) (w:=w) (dst:=dst) (ty:=ty) (pos:=pos) (aft:=aft) (gd:=gd) (xs:=([]:List (El u2))) (ys:=ys) hd (dR hti hl) (bn hf fun t ht=>p2.mem_iff.2 (List.mem_cons_of_mem _ ht)) k1 h1 h2 (d2.trans j1) rfl (by simpa using hle) j2 (by
      rw[d1];exact(j3.um _ _).nR)
   .rename_i e s u q e2 ys hl hx hy;cases hc:(bf e2&&Nat.beq e2.size s)with
    |false=>
     rw[hc]at h;simp only[qH]at h;split at h
     .obtain⟨e1,s1,u1,xs,rs1,h3,p1⟩:=iY h;cases hd2:(Nat.beq e1 e&&Nat.beq s1 s)with
      |false=>rw[hd2]at h3;exact h3.elim
      |true=>
       rw[hd2]at h3;rw[qD]at hd2;have c1:=ak hd2.1;have c2:=ak hd2.2;subst c1 c2;simp only[qG]at h3;split at h3
       .rename_i hu;have hue:=aB hu;subst hue;obtain⟨hle,hK⟩:=h3;refine⟨_,_,hK,fun cx β n fr a w E hg hH=> ?_⟩;obtain⟨v1,h1,d1⟩:=aj E hg hx;obtain⟨v2,h2,d2⟩:=aj E hg hy;unfold Den at d1 d2;obtain⟨d1,_⟩:=d1;obtain⟨F,⟨q1,us,q2,q3,q4⟩,q5,_⟩:=Inv.take1 (r:=Tok.res cx β (.dat q e1 s1 e2 xs)) (hH.aY p1);refine kY hd (dR hti hl) (bn hf fun t ht=>p1.mem_iff.2 (List.mem_cons_of_mem _ ht)) q1 h1 h2 hle q2 d2 q3 ?_;rw[d1];exact q5 _ F (fun _ h=>h) q4
       .exact h3.elim
     .obtain⟨e1,s1,u1,xs,us1,rs1,h3,p1⟩:=aH h;split at h3
      .cases hd2:((Nat.beq e1 e&&Nat.beq s1 s)&&Nat.beq e2.size s)with
       |false=>rw[hd2]at h3;exact h3.elim
       |true=>
        rw[hd2]at h3;simp only[qD]at hd2;have c1:=ak hd2.1.1;have c2:=ak hd2.1.2;have c3:=ak hd2.2;subst c1 c2;obtain⟨hle,hK⟩:=h3;refine⟨_,_,hK,fun cx β n fr a w E hg hH=> ?_⟩;obtain⟨v1,h1,d1⟩:=aj E hg hx;obtain⟨v2,h2,d2⟩:=aj E hg hy;unfold Den at d1 d2;obtain⟨d1,_⟩:=d1;obtain⟨k1,k2⟩:=dh (hH.aY p1);refine kY (xs:=([]:List (El e2))) (us:=[]) hd (dR hti hl) (bn hf fun t ht=>p1.mem_iff.2 (List.mem_cons_of_mem _ ht)) c3 h1 h2 (by simpa using hle) (by unfold List.flatMap ah;rfl) d2 rfl ?_
        rw[d1];exact(k2.kU).nR
      .exact h3.elim
    |true=>
     rw[hc]at h;rw[qD]at hc;obtain⟨e1,s1,u1,xs,us1,rs1,h3,p1⟩:=aH h;cases hd2:(Nat.beq e1 e&&Nat.beq s1 s)with
     |false=>rw[hd2]at h3;exact h3.elim
     |true=>
      rw[hd2]at h3;rw[qD]at hd2;have c1:=ak hd2.1;have c2:=ak hd2.2;have c3:=ak hc.2;simp only[qG]at h3;split at h3
      .rename_i hu;have hue:=aB hu;subst hue;subst c1 c2;obtain⟨hle,hK⟩:=h3;refine⟨_,_,hK,fun cx β n fr a w E hg hH=> ?_⟩;obtain⟨v1,h1,d1⟩:=aj E hg hx;obtain⟨v2,h2,d2⟩:=aj E hg hy;unfold Den at d1 d2;obtain⟨d1,_⟩:=d1;obtain⟨k1,k2⟩:=dh (hH.aY p1);obtain⟨A,c,us,j1,j2,j3⟩:=ql hc.1 d2 k2;refine jM hd (dR hti hl) (bn hf fun t ht=>p1.mem_iff.2 (List.mem_cons_of_mem _ ht)) k1 h1 h2 j1 rfl hle (c3▸j2) ?_;rw[d1];exact Inv.swap j3
      .exact h3.elim
   .rename_i e s u e2 ys hl hx hy;cases hc:(bf e2&&Nat.beq e2.size s)with
    |false=>
     rw[hc]at h;simp only[qH]at h;cases hc2:Nat.beq e2.size s with
     |false=>rw[hc2]at h;exact h.elim
     |true=>
      rw[hc2]at h;obtain⟨hle,hK⟩:=h;refine⟨_,_,hK,fun cx β n fr a w E hg hH=> ?_⟩;obtain⟨v1,h1,d1⟩:=aj E hg hx;obtain⟨v2,h2,d2⟩:=aj E hg hy;unfold Den at d1 d2;obtain⟨d1,_⟩:=d1;refine kY (xs:=([]:List (El e2))) (us:=[]) hd (dR hti hl) (bn hf fun t ht=>ht) (ak hc2) h1 h2 (by simpa using hle) (by unfold List.flatMap ah;rfl) d2 rfl ?_;rw[d1];exact(hH.um _ _).nR
    |true=>
     rw[hc]at h;rw[qD]at hc;have c3:=ak hc.2;obtain⟨hle,hK⟩:=h;refine⟨_,_,hK,fun cx β n fr a w E hg hH=> ?_⟩;obtain⟨v1,h1,d1⟩:=aj E hg hx;obtain⟨v2,h2,d2⟩:=aj E hg hy;unfold Den at d1 d2;obtain⟨d1,_⟩:=d1;obtain⟨A,c,us,j1,j2,j3⟩:=ql hc.1 d2 hH
     exact jM (P:=P) (β:=β) (fr:=fr) (w:=w) (dst:=dst) (ty:=ty) (pos:=pos) (aft:=aft) (gd:=gd) (xs:=([]:List (El e2))) (ys:=ys) hd (dR hti hl) (bn hf fun t ht=>ht) c3 h1 h2 j1 rfl (by simpa using hle) (c3▸j2) (by
      rw[d1];exact(j3.um _ _).nR)
   .rename_i e s u q e2 ys hl hx hy;cases hc:(bf e2&&Nat.beq e2.size s)with
    |false=>
     rw[hc]at h;simp only[qH]at h;obtain⟨e1,s1,u1,xs,us1,rs1,h3,p1⟩:=aH h;split at h3
     .cases hd2:((Nat.beq e1 e&&Nat.beq s1 s)&&Nat.beq e2.size s)with
      |false=>rw[hd2]at h3;exact h3.elim
      |true=>
       rw[hd2]at h3;simp only[qD]at hd2;have c1:=ak hd2.1.1;have c2:=ak hd2.1.2;have c3:=ak hd2.2;subst c1 c2;obtain⟨hle,hK⟩:=h3;refine⟨_,_,hK,fun cx β n fr a w E hg hH=> ?_⟩;obtain⟨v1,h1,d1⟩:=aj E hg hx;obtain⟨v2,h2,d2⟩:=aj E hg hy;unfold Den at d1 d2;obtain⟨d1,_⟩:=d1;obtain⟨k1,k2⟩:=dh (hH.aY p1);refine kY (xs:=([]:List (El e2))) (us:=[]) hd (dR hti hl) (bn hf fun t ht=>p1.mem_iff.2 (List.mem_cons_of_mem _ ht)) c3 h1 h2 (by simpa using hle) (by unfold List.flatMap ah;rfl) d2.1 rfl ?_
       rw[d1];exact(k2.kU).nR
     .exact h3.elim
    |true=>
     rw[hc]at h;rw[qD]at hc;obtain⟨e1,s1,u1,xs,us1,rs1,h3,p1⟩:=aH h;cases hd2:(Nat.beq e1 e&&Nat.beq s1 s)with
     |false=>rw[hd2]at h3;exact h3.elim
     |true=>
      rw[hd2]at h3;rw[qD]at hd2;have c1:=ak hd2.1;have c2:=ak hd2.2;have c3:=ak hc.2;simp only[qG]at h3;split at h3
      .rename_i hu;have hue:=aB hu;subst hue;subst c1 c2;obtain⟨hle,hK⟩:=h3;refine⟨_,_,hK,fun cx β n fr a w E hg hH=> ?_⟩;obtain⟨v1,h1,d1⟩:=aj E hg hx;obtain⟨v2,h2,d2⟩:=aj E hg hy;unfold Den at d1 d2;obtain⟨d1,_⟩:=d1;obtain⟨d2,_⟩:=d2;obtain⟨k1,k2⟩:=dh (hH.aY p1);obtain⟨A,c,us,j1,j2,j3⟩:=ql hc.1 d2 k2;refine jM hd (dR hti hl) (bn hf fun t ht=>p1.mem_iff.2 (List.mem_cons_of_mem _ ht)) k1 h1 h2 j1 rfl hle (c3▸j2) ?_;rw[d1];exact Inv.swap j3
      .exact h3.elim
   .rename_i e s u q k s2 lo m hl hx hy;obtain⟨e1,s1,u1,xs,us1,rs1,h3,p1⟩:=aH h;split at h3
    .rename_i t3 s3 u2 ys us3 hrow;cases hc:((isRow rs1 k&&bf u2)&&(Nat.beq e1 e&&Nat.beq s1 s&&Nat.beq s2 s&&Nat.beq s3 s))with
     |false=>rw[hc]at h3;exact h3.elim
     |true=>
      rw[hc]at h3;simp only[qD]at hc;obtain⟨⟨hirw,hfl⟩,⟨⟨c1,c2⟩,c3⟩,c4⟩:=hc;have c1:=ak c1;have c2:=ak c2;have c3:=ak c3;have c4:=ak c4;subst c1 c2 c3 c4;simp only[qG]at h3;split at h3
      .rename_i hu;have hue:=aB hu;subst hue;obtain⟨⟨hle,hln⟩,hK⟩:=h3;refine⟨_,_,hK,fun cx β n fr a w E hg hH=> ?_⟩;obtain⟨v1,h1,d1⟩:=aj E hg hx;obtain⟨v2,h2,d2⟩:=aj E hg hy;unfold Den at d1 d2;obtain⟨d1,_⟩:=d1;obtain⟨b,z,mm,c,o,c',q1,q2,q3,q4,q5⟩:=d2;obtain⟨k1,k2⟩:=dh (hH.aY p1);obtain⟨i,hi⟩:=oG hrow hirw;obtain⟨hil,hie⟩:=qE.1 hi
       have hp:rs1.Perm (Tok.row k t3 s3 u2 ys us3::(rs1.take i++rs1.drop (i+1))):=by
        have e0:rs1=rs1.take i++Tok.row k t3 s3 u2 ys us3::rs1.drop (i+1):=by
         rw[<-hie,List.getElem_cons_drop,List.take_append_drop]
        exact(List.Perm.of_eq e0).trans List.perm_middle
       have hk:Inv cx.w0 cx.F0 w (Tok.res cx β (.row k t3 s3 u2 ys us3)::((rs1.take i++rs1.drop (i+1)).map (Tok.res cx β)++fr)):=(k2.tail).perm ((hp.map _).append_right fr);have hz:=sV hk q1;subst hz;rw[Nat.zero_add]at q4;obtain⟨us,j2,j3⟩:=wB hfl hle hk q1 q4;have hI1:Inv cx.w0 cx.F0 w (aL us (List.flatMap (enc u2) ((ys.drop lo).take m))::(kD (β q) e1 s3 xs.length (xs.flatMap (enc u2)) us1::(rs1.map (Tok.res cx β)++fr))):=k2.new (ss:=[aL us (List.flatMap (enc u2) ((ys.drop lo).take m))]) ⟨iH.refl _ _,[],⟨[],[],rfl,⟨j3,Own.nil _ _⟩,rfl,by simp⟩,by simp⟩
       have hlen:((ys.drop lo).take m).length=m:=by rw[List.length_take,List.length_drop];exact Nat.min_eq_left (by omega)
       refine jM hd (dR hti hl) (bn hf fun t ht=>p1.mem_iff.2 (List.mem_cons_of_mem _ ht)) k1 h1 h2 q3 hlen (by rw[hlen];exact hln) j2 ?_;rw[d1];exact hI1.swap
      .exact h3.elim
    .exact h3.elim
   .exact h.elim
 .exact h.elim
theorem uX:∀{n:Nat} {todo:aK} {rs:List Tok} {i:Nat} {K:List Tok->List (Nat×Nat)->List Tok->Prop},CK n todo rs i K->∃tk σ rest,K tk σ rest/\rs.Perm (tk++rest)/\σ.length=tk.length/\∀(j:Nat) (t:Tok),tk[j]? =some t->σ[j]? =some (t.name,i+j)
 |0,todo,rs,i,K,h=>by unfold CK at h;exact h.elim
 |n+1,[],rs,i,K,h=>by unfold CK at h;exact⟨[],[],rs,h,List.Perm.refl _,rfl,fun j t h=>by simp at h⟩
 |n+1,g::todo,rs,i,K,h=>by
  unfold CK at h;rcases aP h with⟨x,l,h1,h2,h3⟩|h1
  .obtain⟨tk,σ,rest,k1,k2,k3,k4⟩:=uX h1;refine⟨x::tk,(g,i)::σ,rest,k1,h3.trans (k2.cons _),by simp[k3],fun j t hj=> ?_⟩;cases j with
   |zero=>simp at hj;subst hj;simp[h2]
   |succ j=>
    have:=k4 j t (by simpa using hj);simp only[List.getElem?_cons_succ,this]
    congr 2
    omega
  .exact uX h1
theorem nT{d c g:Nat}:∀{σ:List (Nat×Nat)} {i:Nat},(c,g)∈lQ d σ i->(g,c)∈σ\/∃m,m<=9/\c=i+σ.length+m/\g=d+m*1000000
 |[],i,h=>by
  unfold lQ at h;simp only[List.mem_cons,Prod.mk.injEq,List.not_mem_nil,or_false]at h;rcases h with⟨rfl,rfl⟩|⟨rfl,rfl⟩|⟨rfl,rfl⟩|⟨rfl,rfl⟩|⟨rfl,rfl⟩|⟨rfl,rfl⟩|⟨rfl,rfl⟩|⟨rfl,rfl⟩|⟨rfl,rfl⟩|⟨rfl,rfl⟩
  .exact .inr ⟨0,by omega,by simp,by simp⟩
  .exact .inr ⟨1,by omega,by simp,by simp⟩
  .exact .inr ⟨2,by omega,by simp,by simp⟩
  .exact .inr ⟨3,by omega,by simp,by simp⟩
  .exact .inr ⟨4,by omega,by simp,by simp⟩
  .exact .inr ⟨5,by omega,by simp,by simp⟩
  .exact .inr ⟨6,by omega,by simp,by simp⟩
  .exact .inr ⟨7,by omega,by simp,by simp⟩
  .exact .inr ⟨8,by omega,by simp,by simp⟩
  .exact .inr ⟨9,by omega,by simp,by simp⟩
 |(g0,c0)::σ,i,h=>by
  unfold lQ at h;rcases List.mem_cons.1 h with h|h
  .cases h;exact .inl (by simp)
  .rcases nT h with h|⟨m,h1,h2,h3⟩
   .exact .inl (List.mem_cons_of_mem _ h)
   .exact .inr ⟨m,h1,by rw[h2,qI];omega,h3⟩
theorem rE:∀{l e:List Tok} {K:List Tok->Prop},xQ l e K->K (l++e)
 |[],e,K,h=>h
 |x::l,e,K,h=>rE (l:=l) (K:=fun l'=>K (x::l')) h
theorem Cc{d f:Nat}(hd:d<1000000)(hf:au d env rs=true){vs l:List SV}{y:Operand}{xs:List Operand}(hy:evs env g y=some (.fn f l))(hvs:oU env g xs=some vs){K:SV->List Tok->Prop}(h:Es P rs d f (vs++l) K){tys:Array TypeId}:
  ∃v rs',K v rs'/\nI P env rs g d ⟨dst,.call ⟨.value y,xs.toArray,tys⟩,ty,pos,aft,gd⟩ v rs':=by
 unfold Es at h;obtain⟨tk,σ,rest,h,hp,hσ,hσ2⟩:=uX h;obtain⟨vs',h,hv⟩:=iE h;obtain⟨tk',h,htl,ht⟩:=gV h;obtain⟨r,ts',⟨hok,hq⟩,h⟩:=h;obtain⟨r',h,hr⟩:=qh h;obtain⟨ts'',h,_,hts⟩:=gV h;have h:=rE h;refine⟨r',ts''++rest,h,fun cx β n fr a w E hg hH=> ?_⟩;have hx0:=lD E hg hvs;obtain⟨fv,e1,e2⟩:=aj E hg hy;unfold Den at e2;obtain⟨cs,rfl,e3⟩:=e2;have hx:=hx0.app e3
 let βc:Nat->Value:=fun c=>match σ[c-10000]? with|some (g,_)=>β g|none=>β c
 have hσm:∀g c,(g,c)∈σ->∃j t,tk[j]? =some t/\g=t.name/\c=10000+j:=fun g c hm=>by
  obtain⟨j,hj⟩:=List.getElem?_of_mem hm;have hlt:j<tk.length:=by rw[<-hσ];exact(qE.1 hj).1
  have h1:=hσ2 j tk[j] (qB hlt);rw[hj]at h1;injection h1 with h1
  injection h1 with h2 h3
  exact⟨j,_,qB hlt,h2,h3⟩
 have hβc:∀j t,tk[j]? =some t->βc (10000+j)=β t.name:=fun j t hj=>by
  show(match σ[10000+j-10000]? with|some (g,_)=>β g|none=>β (10000+j))=_;rw[Nat.add_sub_cancel_left,hσ2 j t hj]
 have hR:Bq true σ β βc:=fun g g' hl=>by
  rcases hl with hl|⟨h1,_⟩
  .obtain⟨j,t,h1,rfl,rfl⟩:=hσm g g' (jT hl);exact hβc j t h1
  .cases h1
 have hI:Inv cx.w0 cx.F0 w (tk'.map (Tok.res cx βc)++(rest.map (Tok.res cx β)++fr)):=by
  have h1:=hH.aY hp;rw[qZ,qF]at h1;exact h1.pO (dx (fun _ _ h F=>(h F).1) (ht cx β βc hR w))
 refine .inr ⟨f,_,vW e1 rfl hok,?_⟩;refine(hq cx βc w _ _ hI ((hv cx β βc hR _).1 hx)).mono fun e w' hpost=> ?_
 obtain⟨x,βc',rfl,hag,hdr,hI'⟩:=hpost
 let β2:Nat->Value:=fun g=>if g % 1000000=d then βc' (10000+tk.length+g/1000000)else β g
 have hA:lN d β β2:=fun g hg=>by show(if g % 1000000=d then _ else β g)=β g;rw[if_neg hg]
 have hR2:Bq true (lQ d σ 10000) βc' β2:=fun c g hl=>by
  rcases hl with hl|⟨h1,_⟩
  .rcases nT (jT hl)with hm|⟨m,h1,h2,h3⟩
   .obtain⟨j,t,k1,rfl,rfl⟩:=hσm g c hm;have hlt:j<tk.length:=(qE.1 k1).1;have hmem:t∈rs:=hp.mem_iff.2 (List.mem_append_left _ (List.mem_of_getElem? k1));have hne:=dK hf t hmem t.name (by cases t<;>simp[Tok.names,Tok.name]);rw[hA _ hne,hag (10000+j) (by omega) (by rw[htl];omega),hβc j t k1]
   .show(if g % 1000000=d then βc' (10000+tk.length+g/1000000)else β g)=_;have e1:g % 1000000=d:=by rw[h3];omega
    have e2:g/1000000=m:=by rw[h3];omega
    rw[if_pos e1,e2,h2,hσ]
  .cases h1
 refine⟨x,β2,rfl,hA,(hr cx βc' β2 hR2 x).1 hdr,?_⟩;rw[qZ,qF];have h1:=hI'.pO (dx (fun _ _ h F=>(h F).1) (hts cx βc' β2 hR2 w'))
 have h2:Inv cx.w0 cx.F0 w' (rest.map (Tok.res cx β)++(ts''.map (Tok.res cx β2)++fr)):=h1.perm (by
  rw[<-qF,<-qF];exact List.perm_append_comm.append_right fr)
 have h3:=h2.beta (β':=β2) fun t ht g hg=>hA g (bn hf (fun t ht=>hp.mem_iff.2 (List.mem_append_right _ ht)) t ht g hg)
 exact h3.perm (by
  rw[<-qF,<-qF];exact List.perm_append_comm.append_right fr)
end
end Go.Tr
