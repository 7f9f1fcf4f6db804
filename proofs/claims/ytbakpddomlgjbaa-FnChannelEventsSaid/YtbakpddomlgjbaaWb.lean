
/- The symbolic machine with calls that leave data which is never written again: regions in order, control, functions. -/
import Derived.Test.YtbakpddomlgjbaaWq
set_option linter.unusedSimpArgs false
set_option linter.unusedVariables false
namespace Go.Tr
open Go Go.RowKit
universe u
mutual
def wV(g:Nat)(e:U)(xs:List (El e)):SV->(SV->Prop)->Prop
 | .sl h,K=>bif Nat.beq h g then K (.rsl e xs)else K (.sl h)
 | .agg l,K=>vY g e xs l fun l'=>K (.agg l')
 | .tup l,K=>vY g e xs l fun l'=>K (.tup l')
 | .fn f l,K=>vY g e xs l fun l'=>K (.fn f l')
 | .gd d b v,K=>wV g e xs v fun v'=>K (.gd d b v')
 | .ptr h o,K=>K (.ptr h o)
 | .ep h s i o,K=>K (.ep h s i o)
 | .mp h,K=>K (.mp h)
 | .nh k o n hdr,K=>K (.nh k o n hdr)
 | .np k o n hdr s i j,K=>K (.np k o n hdr s i j)
 | .nn e xs,K=>K (.nn e xs)
 | .sx h s lo n,K=>K (.sx h s lo n)
 | .int k i,K=>K (.int k i)
 | .bool b,K=>K (.bool b)
 | .raw v,K=>K (.raw v)
 | .rsl e xs,K=>K (.rsl e xs)
 | .rp u x,K=>K (.rp u x)
 | .un,K=>K .un
def vY(g:Nat)(e:U)(xs:List (El e)):List SV->(List SV->Prop)->Prop
 |[],K=>K []
 |v::l,K=>wV g e xs v fun v'=>vY g e xs l fun l'=>K (v'::l')
end
def Bb(g:Nat)(e:U)(xs:List (El e)):Ev->(Ev->Prop)->Prop
 |[],K=>K []
 |(t,v)::l,K=>wV g e xs v fun v'=>Bb g e xs l fun l'=>K ((t,v')::l')
def su(g:Nat)(e:U)(xs:List (El e)):List Tok->(List Tok->Prop)->Prop
 |[],K=>K []
 |x::l,K=>match x with
  | .bQ h t cs=>vY g e xs cs fun cs'=>su g e xs l fun l'=>K (.bQ h t cs'::l')
  |x=>su g e xs l fun l'=>K (x::l')
def yV(g:Nat)(env:Ev)(rs:List Tok)(K:Ev->List Tok->Prop):Prop:=dK rs g fun _ _ u xs _ rest=>Bb g u xs env fun env'=>su g u xs rest fun rest'=>K env' rest'
def pG(g:Nat)(env:Ev)(rs:List Tok)(K:Ev->List Tok->Prop):Prop:=qg rs g fun _ _ u xs rest=>Bb g u xs env fun env'=>su g u xs rest fun rest'=>K env' rest'
def xK:List Nat->Ev->List Tok->(Ev->List Tok->Prop)->Prop
 |[],env,rs,K=>K env rs
 |g::l,env,rs,K=>match rowOf rs g with
  |some _=>yV g env rs fun env' rs'=>xK l env' rs' K
  |none=>match dV rs g with
   |some _=>pG g env rs fun env' rs'=>xK l env' rs' K
   |none=>xK l env rs K
def Dx:List (List SV)->List Nat->List Nat
 |[],r=>r
 |c::l,r=>dB c (Dx l r)
def Mk(P:Program)(ti:TI)(env:Ev)(rs:List Tok)(d:Nat)(op:Op)(K:SV->Ev->List Tok->Prop):Prop:=match op with
 | .buildSlice t m ps=>match iA env none ps.toList 0 with
  |some css=>bif Dn css then(match lk ti t with
   |some (.sl _ s u)=>xK (Dx css []) env rs fun env' rs'=>match iA env' none ps.toList 0 with
    |some css'=>bif Nat.beq css'.length m&&(Nat.blt 0 m&&Nat.ble (m*s) 16777216)then EG u css' fun xs=>K (.rsl u xs) env' rs' else False
    |none=>False
   |_=>False)
   else bif aA d env rs then gJ P ti env rs none d (.buildSlice t m ps) (fun v rs'=>K v env rs')else False
  |none=>False
 |op=>bif aA d env rs then gJ P ti env rs none d op (fun v rs'=>K v env rs')else False
def qm(P:Program)(ti:TI)(nt:Nat)(ops:List Oper)(dd:List Nat)(l:List Oper):Ev->List Tok->(Ev->List Tok->Prop)->Prop:=
 List.rec (motive:=fun _=>List Nat->Ev->List Tok->(Ev->List Tok->Prop)->Prop) (fun _ env rs K=>K env rs) (fun o _ ih dd env rs K=>match o.dst with
  |none=>match dZ ops env o.guard with
   | .no=>False
   | .free=>gV ti env rs none o.op fun rs'=>ih dd env rs' K
   | .at gd gb gc=>(gc=true->gV ti env rs (some (gd,gb)) o.op fun rs'=>ih dd env rs' K)/\(gc=false->ih dd env rs K)
  |some d=>bif Nat.blt d nt&& !mem d dd then(match dZ ops env o.guard with
   | .no=>False
   | .free=>match kind o.op with
    | .pure=>jQ P ti env rs none none o.op fun v=>ih (d::dd) ((d,v)::env) rs K
    | .st=>Mk P ti env rs d o.op fun v env' rs'=>ih (d::dd) ((d,v)::env') rs' K
    | .call=>(jQ P ti env rs none none o.op fun v=>ih (d::dd) ((d,v)::env) rs K)\/(bif aA d env rs then gJ P ti env rs none d o.op fun v rs'=>ih (d::dd) ((d,v)::env) rs' K else False)\/(bif aA d env rs then Ml P env rs d o.op fun v rs'=>ih (d::dd) ((d,v)::env) rs' K else False)
   | .at gd gb gc=>bif mem gd dd then(match kind o.op with
    | .pure=>jQ P ti env rs (some (gd,gb)) (some gc) o.op fun v=>ih (d::dd) ((d,.gd gd gb v)::env) rs K
    | .st=>(gc=true->bif aA d env rs then gJ P ti env rs (some (gd,gb)) d o.op fun v rs'=>ih (d::dd) ((d,v)::env) rs' K else False)/\(gc=false->ih (d::dd) ((d,.un)::env) rs K)
    | .call=>(jQ P ti env rs (some (gd,gb)) (some gc) o.op fun v=>ih (d::dd) ((d,.gd gd gb v)::env) rs K)\/
     ((gc=true->bif aA d env rs then gJ P ti env rs (some (gd,gb)) d o.op fun v rs'=>ih (d::dd) ((d,v)::env) rs' K else False)/\(gc=false->∃v,ih (d::dd) ((d,.gd gd gb v)::env) rs K)))else False)else False) l dd
theorem IE{P:Program}{ti:TI}{nt:Nat}{ops:List Oper}{dd:aG}{o:Oper}{rest:List Oper}{env:Ev}{rs:List Tok}{K:Ev->List Tok->Prop}:qm P ti nt ops dd (o::rest) env rs K=(match o.dst with
  |none=>match dZ ops env o.guard with
   | .no=>False
   | .free=>gV ti env rs none o.op fun rs'=>qm P ti nt ops dd rest env rs' K
   | .at gd gb gc=>(gc=true->gV ti env rs (some (gd,gb)) o.op fun rs'=>qm P ti nt ops dd rest env rs' K)/\(gc=false->qm P ti nt ops dd rest env rs K)
  |some d=>bif Nat.blt d nt&& !mem d dd then(match dZ ops env o.guard with
   | .no=>False
   | .free=>match kind o.op with
    | .pure=>jQ P ti env rs none none o.op fun v=>qm P ti nt ops (d::dd) rest ((d,v)::env) rs K
    | .st=>Mk P ti env rs d o.op fun v env' rs'=>qm P ti nt ops (d::dd) rest ((d,v)::env') rs' K
    | .call=>(jQ P ti env rs none none o.op fun v=>qm P ti nt ops (d::dd) rest ((d,v)::env) rs K)\/(bif aA d env rs then gJ P ti env rs none d o.op fun v rs'=>qm P ti nt ops (d::dd) rest ((d,v)::env) rs' K else False)\/(bif aA d env rs then Ml P env rs d o.op fun v rs'=>qm P ti nt ops (d::dd) rest ((d,v)::env) rs' K else False)
   | .at gd gb gc=>bif mem gd dd then(match kind o.op with
    | .pure=>jQ P ti env rs (some (gd,gb)) (some gc) o.op fun v=>qm P ti nt ops (d::dd) rest ((d,.gd gd gb v)::env) rs K
    | .st=>(gc=true->bif aA d env rs then gJ P ti env rs (some (gd,gb)) d o.op fun v rs'=>qm P ti nt ops (d::dd) rest ((d,v)::env) rs' K else False)/\(gc=false->qm P ti nt ops (d::dd) rest ((d,.un)::env) rs K)
    | .call=>(jQ P ti env rs (some (gd,gb)) (some gc) o.op fun v=>qm P ti nt ops (d::dd) rest ((d,.gd gd gb v)::env) rs K)\/
     ((gc=true->bif aA d env rs then gJ P ti env rs (some (gd,gb)) d o.op fun v rs'=>qm P ti nt ops (d::dd) rest ((d,v)::env) rs' K else False)/\(gc=false->∃v,qm P ti nt ops (d::dd) rest ((d,.gd gd gb v)::env) rs K)))else False)else False):=rfl
def Eh(P:Program)(ti:TI)(nt:Nat)(c:Code):Ev->List Tok->(X->Ev->List Tok->Prop)->Prop:=
 Code.rec (motive:=fun _=>Ev->List Tok->(X->Ev->List Tok->Prop)->Prop)
  (fun env rs K=>K .n env rs)
  (fun _ ops draw env rs K=>match draw with
   |false=>qm P ti nt ops.toList [] ops.toList env rs fun env' rs'=>bif fO ops.toList then jT [] env' (fun env''=>K .n env'' rs')else K .n env' rs'
   |true=>Ef P ti nt ops.toList env rs fun env' rs'=>bif fO ops.toList then jT [] env' (fun env''=>K .n env'' rs')else K .n env' rs')
  (fun _ _ ih_a ih_b env rs K=>ih_a env rs fun e env' rs'=>match e with| .n=>ih_b env' rs' K|e=>K e env' rs')
  (fun c _ _ ih_a ih_b env rs K=>match evs env none c with
  |some (.bool t)=>(t=true->ih_a env rs K)/\(t=false->ih_b env rs K)
  |_=>False)
  (fun id _ ih_a env rs K=>ih_a env rs fun e env' rs'=>match e with
  | .x id'=>bif Nat.beq id' id then K .n env' rs' else K (.x id') env' rs'
  |e=>K e env' rs')
  (fun body ih_body env rs K=>∃L:Lp,(L.I L.s0/\fV env rs (L.U L.s0) (L.T L.s0))/\∀s,L.I s->pJ (wr body []) env fun kept=>Eo (L.U s) kept fun env1=>L.G s fun rsG=>ih_body env1 rsG fun e env' rs'=>match e with
  | .n=>∃s',(L.I s'/\fV env' rs' (L.U s') (L.T s'))/\L.μ s'<L.μ s
  |e=>K e env' rs')
  (fun _ _ _ _ _ _ _ _ _=>False)
  (fun id env rs K=>K (.x id) env rs)
  (fun _ _ _ _ _=>False)
  (fun _ _ _ _=>False)
  (fun _ _ _ _=>False)
  (fun env rs K=>K .r env rs)
  (fun _ _ _ _=>False) c
section
variable {P:Program}{ti:TI}{nt:Nat}{env:Ev}{rs:List Tok}{K:X->Ev->List Tok->Prop}
theorem KD{a b:Code}:Eh P ti nt (.seq a b) env rs K=(Eh P ti nt a env rs fun e env' rs'=>match e with| .n=>Eh P ti nt b env' rs' K|e=>K e env' rs'):=rfl
theorem II{c:Operand}{a b:Code}:Eh P ti nt (.cond c a b) env rs K=(match evs env none c with
  |some (.bool t)=>(t=true->Eh P ti nt a env rs K)/\(t=false->Eh P ti nt b env rs K)
  |_=>False):=rfl
theorem EY{id:Nat}{a:Code}:Eh P ti nt (.block id a) env rs K=(Eh P ti nt a env rs fun e env' rs'=>match e with
  | .x id'=>bif Nat.beq id' id then K .n env' rs' else K (.x id') env' rs'
  |e=>K e env' rs'):=rfl
theorem KC{id:Nat}{ops:Array Oper}:Eh P ti nt (.region id ops false) env rs K=(qm P ti nt ops.toList [] ops.toList env rs fun env' rs'=>bif fO ops.toList then jT [] env' (fun env''=>K .n env'' rs')else K .n env' rs'):=rfl
theorem IJ{id:Nat}{ops:Array Oper}:Eh P ti nt (.region id ops true) env rs K=(Ef P ti nt ops.toList env rs fun env' rs'=>bif fO ops.toList then jT [] env' (fun env''=>K .n env'' rs')else K .n env' rs'):=rfl
theorem IK{body:Code}:Eh P ti nt (.loop body) env rs K=(∃L:Lp,(L.I L.s0/\fV env rs (L.U L.s0) (L.T L.s0))/\∀s,L.I s->pJ (wr body []) env fun kept=>Eo (L.U s) kept fun env1=>L.G s fun rsG=>Eh P ti nt body env1 rsG fun e env' rs'=>match e with
  | .n=>∃s',(L.I s'/\fV env' rs' (L.U s') (L.T s'))/\L.μ s'<L.μ s
  |e=>K e env' rs'):=rfl
end
def Qc(P:Program)(ti:TI)(nt:Nat)(c:Code)(rv:List ResultVar)(args:List SV)(ts:List Tok)(r:SV)(ts':List Tok):Prop:=
 Eh P ti nt c (oN args 0 []) ts fun e env rs=>match e with
  | .x _=>False
  |_=>∃(σ:List (Nat×Nat)) (M:List tJ),jX M env rs fun env rs=>D5 true (ig (rE ts.length 10000) σ) r (fun r'=>tO ti env rs rv r')/\gI true (ig (rE ts.length 10000) σ) ts' fun ts''=>cZ rs ts''
section
variable {cx cx':Cx}{β β' β'':Nat->Value}{P:Program}{ti:TI}{n:Nat}{a a' a'':Act}{env env':Ev}{rs:List Tok}{fr:List bn}{w w':World}{g:Option (Nat×Bool)}{v:SV}{dst:Option Nat}{ty:TypeId}{pos:String}{aft:Array Edge}{gd:Option (Nat×Bool)}
section
variable {e:U}{xs:List (El e)}
mutual
theorem zL{q:Nat}:∀(s:SV) {K:SV->Prop},wV q e xs s K->∃s',K s'/\(∀d b x,s'=.gd d b x->∃y,s=.gd d b y)/\∀(cx cx':Cx) (β:Nat->Value) (a:Act) (v:Value),(∀{d:D} {v:Value},dY cx.w0 cx.F0 d v->dY cx'.w0 cx'.F0 d v)->(∀{b o:Nat} {ds:List D},je cx.w0 cx.F0 b o ds->je cx'.w0 cx'.F0 b o ds)->dY cx'.w0 cx'.F0 (.sl (List.length (α:=El e) xs) (List.flatMap (enc e) xs)) (β q)->
  (Den cx β s v->Den cx' β s' v)/\(bO cx β a s v->bO cx' β a s' v)
 | .sl h,K,hk=>by
  unfold wV at hk;cases hb:Nat.beq h q with
  |true=>
   rw[hb]at hk;have:=ay hb;subst this
   have key:∀(cx cx':Cx) (β:Nat->Value) (v:Value),dY cx'.w0 cx'.F0 (.sl (List.length (α:=El e) xs) (List.flatMap (enc e) xs)) (β h)->Den cx β (.sl h) v->Den cx' β (.rsl e xs) v:=fun cx cx' β v hr hd=>by
    unfold Den at hd |-;obtain⟨rfl,_⟩:=hd;exact hr
   exact⟨_,hk,fun d b x h=>(by cases h),fun cx cx' β a v _ _ hr=>⟨key cx cx' β v hr,fun hd=>bO.of (key cx cx' β v hr hd)⟩⟩
  |false=>
   rw[hb]at hk;exact⟨_,hk,fun d b x h=>(by cases h),fun cx cx' β a v hs hp _=>⟨fun hd=>Den.imp hs hp hd,fun hd=>bO.of (Den.imp hs hp (show Den cx β (.sl h) v from hd))⟩⟩
 | .agg l,K,hk=>by
  unfold wV at hk;obtain⟨l',h1,h2⟩:=mE l hk
  have key:∀(cx cx':Cx) (β:Nat->Value) (v:Value),(∀{d:D} {v:Value},dY cx.w0 cx.F0 d v->dY cx'.w0 cx'.F0 d v)->(∀{b o:Nat} {ds:List D},je cx.w0 cx.F0 b o ds->je cx'.w0 cx'.F0 b o ds)->dY cx'.w0 cx'.F0 (.sl (List.length (α:=El e) xs) (List.flatMap (enc e) xs)) (β q)->Den cx β (.agg l) v->Den cx' β (.agg l') v:=fun cx cx' β v hs hp hr hd=>by
   unfold Den at hd |-;obtain⟨us,e,h3⟩:=hd;exact⟨us,e,h2 cx cx' β us hs hp hr h3⟩
  exact⟨_,h1,fun d b x h=>(by cases h),fun cx cx' β a v hs hp hr=>⟨key cx cx' β v hs hp hr,fun hd=>bO.of (key cx cx' β v hs hp hr hd)⟩⟩
 | .tup l,K,hk=>by
  unfold wV at hk;obtain⟨l',h1,h2⟩:=mE l hk
  have key:∀(cx cx':Cx) (β:Nat->Value) (v:Value),(∀{d:D} {v:Value},dY cx.w0 cx.F0 d v->dY cx'.w0 cx'.F0 d v)->(∀{b o:Nat} {ds:List D},je cx.w0 cx.F0 b o ds->je cx'.w0 cx'.F0 b o ds)->dY cx'.w0 cx'.F0 (.sl (List.length (α:=El e) xs) (List.flatMap (enc e) xs)) (β q)->Den cx β (.tup l) v->Den cx' β (.tup l') v:=fun cx cx' β v hs hp hr hd=>by
   unfold Den at hd |-;obtain⟨us,e,h3⟩:=hd;exact⟨us,e,h2 cx cx' β us hs hp hr h3⟩
  exact⟨_,h1,fun d b x h=>(by cases h),fun cx cx' β a v hs hp hr=>⟨key cx cx' β v hs hp hr,fun hd=>bO.of (key cx cx' β v hs hp hr hd)⟩⟩
 | .fn f l,K,hk=>by
  unfold wV at hk;obtain⟨l',h1,h2⟩:=mE l hk
  have key:∀(cx cx':Cx) (β:Nat->Value) (v:Value),(∀{d:D} {v:Value},dY cx.w0 cx.F0 d v->dY cx'.w0 cx'.F0 d v)->(∀{b o:Nat} {ds:List D},je cx.w0 cx.F0 b o ds->je cx'.w0 cx'.F0 b o ds)->dY cx'.w0 cx'.F0 (.sl (List.length (α:=El e) xs) (List.flatMap (enc e) xs)) (β q)->Den cx β (.fn f l) v->Den cx' β (.fn f l') v:=fun cx cx' β v hs hp hr hd=>by
   unfold Den at hd |-;obtain⟨us,e,h3⟩:=hd;exact⟨us,e,h2 cx cx' β us hs hp hr h3⟩
  exact⟨_,h1,fun d b x h=>(by cases h),fun cx cx' β a v hs hp hr=>⟨key cx cx' β v hs hp hr,fun hd=>bO.of (key cx cx' β v hs hp hr hd)⟩⟩
 | .gd d b s,K,hk=>by
  unfold wV at hk;obtain⟨s',h1,_,h2⟩:=zL s hk;refine⟨_,h1,fun d' b' x h=>(by injection h with e1 e2 e3;subst e1 e2;exact⟨_,rfl⟩),fun cx cx' β a v hs hp hr=>⟨fun hd=>(by unfold Den at hd;exact hd.elim),fun hd=> ?_⟩⟩;have h3:(a.tmps[d]? =some (Value.bool b)->Den cx β s v)/\(a.tmps[d]? ≠some (Value.bool b)->v=undef):=hd;exact show(a.tmps[d]? =some (Value.bool b)->Den cx' β s' v)/\(a.tmps[d]? ≠some (Value.bool b)->v=undef) from⟨fun hh=>(h2 cx cx' β a v hs hp hr).1 (h3.1 hh),h3.2⟩
 | .ptr h o,K,hk| .ep h s i o,K,hk| .mp h,K,hk| .nh k o n hdr,K,hk| .np k o n hdr s i j,K,hk| .nn u ys,K,hk| .sx h s lo n,K,hk| .int k i,K,hk| .bool b,K,hk| .raw x,K,hk| .rsl u ys,K,hk| .rp u x,K,hk| .un,K,hk=>by
  unfold wV at hk;exact⟨_,hk,fun d b x h=>(by cases h),fun cx cx' β a v hs hp _=>⟨fun hd=>Den.imp hs hp hd,fun hd=>bO.of (Den.imp hs hp (show Den cx β _ v from hd))⟩⟩
theorem mE{q:Nat}:∀(l:List SV) {K:List SV->Prop},vY q e xs l K->∃l',K l'/\∀(cx cx':Cx) (β:Nat->Value) (us:aO),(∀{d:D} {v:Value},dY cx.w0 cx.F0 d v->dY cx'.w0 cx'.F0 d v)->(∀{b o:Nat} {ds:List D},je cx.w0 cx.F0 b o ds->je cx'.w0 cx'.F0 b o ds)->dY cx'.w0 cx'.F0 (.sl (List.length (α:=El e) xs) (List.flatMap (enc e) xs)) (β q)->aj cx β l us->aj cx' β l' us
 |[],K,hk=>⟨[],hk,fun cx cx' β us _ _ _ hd=>by unfold aj at hd |-;exact hd⟩
 |s::l,K,hk=>by
  unfold vY at hk;obtain⟨s',h1,_,h2⟩:=zL s hk;obtain⟨l',h3,h4⟩:=mE l h1;refine⟨_,h3,fun cx cx' β us hs hp hr hd=> ?_⟩;unfold aj at hd |-;obtain⟨v,vs',k1,k2,k3⟩:=hd;exact⟨v,vs',k1,(h2 cx cx' β ⟨#[],[]⟩ v hs hp hr).1 k2,h4 cx cx' β vs' hs hp hr k3⟩
end
theorem vX{q:Nat}:∀{l:Ev} {K:Ev->Prop},Bb q e xs l K->∃l',K l'/\∀t s',lk l' t=some s'->∃s,lk l t=some s/\(∀d b x,s'=.gd d b x->∃y,s=.gd d b y)/\∀(cx cx':Cx) (β:Nat->Value) (a:Act) (v:Value),(∀{d:D} {v:Value},dY cx.w0 cx.F0 d v->dY cx'.w0 cx'.F0 d v)->(∀{b o:Nat} {ds:List D},je cx.w0 cx.F0 b o ds->je cx'.w0 cx'.F0 b o ds)->dY cx'.w0 cx'.F0 (.sl (List.length (α:=El e) xs) (List.flatMap (enc e) xs)) (β q)->bO cx β a s v->bO cx' β a s' v
 |[],K,hk=>⟨[],hk,fun t s' hl=>by simp[lk]at hl⟩
 |(t0,s)::l,K,hk=>by
  unfold Bb at hk;obtain⟨s',h1,h2,h3⟩:=zL s hk;obtain⟨l',h4,h5⟩:=vX (l:=l) h1;refine⟨_,h4,fun t x hl=> ?_⟩;rw[aL]at hl |-
  by_cases et:t=t0
  .rw[if_pos et]at hl |-;injection hl with hl
   subst hl;exact⟨s,rfl,h2,fun cx cx' β a v hs hp hr=>(h3 cx cx' β a v hs hp hr).2⟩
  .rw[if_neg et]at hl |-;exact h5 t x hl
theorem nC{q:Nat}:∀{l:List Tok} {K:List Tok->Prop},su q e xs l K->∃l',K l'/\∀(cx cx':Cx) (β:Nat->Value) (w:World),(∀{d:D} {v:Value},dY cx.w0 cx.F0 d v->dY cx'.w0 cx'.F0 d v)->(∀{b o:Nat} {ds:List D},je cx.w0 cx.F0 b o ds->je cx'.w0 cx'.F0 b o ds)->dY cx'.w0 cx'.F0 (.sl (List.length (α:=El e) xs) (List.flatMap (enc e) xs)) (β q)->
  F2 (fun r r'=>∀F,bn.p r w F->bn.p r' w F) (l.map (Tok.res cx β)) (l'.map (Tok.res cx' β))
 |[],K,hk=>⟨[],hk,fun cx cx' β w _ _ _=>.nil⟩
 |x::l,K,hk=>by
  unfold su at hk;split at hk
  .rename_i h t cs;obtain⟨cs',h1,h2⟩:=mE cs hk;obtain⟨l',h3,h4⟩:=nC (l:=l) h1;refine⟨_,h3,fun cx cx' β w hs hp hr=>.cons (fun F hF=> ?_) (h4 cx cx' β w hs hp hr)⟩;obtain⟨b,us,k1,k2,k3⟩:=hF;exact⟨b,us,k1,h2 cx cx' β us hs hp hr k2,k3⟩
  .rename_i hne;obtain⟨l',h3,h4⟩:=nC (l:=l) hk;refine⟨_,h3,fun cx cx' β w hs hp hr=>.cons (fun F hF=> ?_) (h4 cx cx' β w hs hp hr)⟩;cases x with
   |bQ h t cs=>exact absurd rfl (hne h t cs)
   |dat h t s u ys=>
    obtain⟨k1,us,k2,k3⟩:=hF;exact⟨k1,us,aj.imp hs hp k2,k3⟩
   |_=>exact hF
end
theorem HH.freeze{q:Nat}{K:Ev->List Tok->Prop}(hh:HH cx n fr β a w env rs)(h:yV q env rs K):∃cx' env' rs',K env' rs'/\cx.le cx'/\HH cx' n fr β a w env' rs'/\∀t d b x,lk env' t=some (.gd d b x)->∃y,lk env t=some (.gd d b y):=by
 unfold yV at h;obtain⟨t,s,u,xs,us,rest,h,hp⟩:=bE h;obtain⟨env',h,hE⟩:=vX h;obtain⟨rs',h,hT⟩:=nC h;have h1:Inv cx.w0 cx.F0 w (Tok.res cx β (.row q t s u xs us)::(rest.map (Tok.res cx β)++fr)):=hh.H.bT hp;obtain⟨G0,⟨F,G,rfl,k1,k2,k3⟩,hG⟩:=h1.sep;obtain⟨hl,hI⟩:=Inv.base h1.tail k2 fun b hb=>hG b (List.mem_append_right _ hb)
 have hr:dY w G (.sl (List.length (α:=El u) xs) (List.flatMap (enc u) xs)) (β q):=by
  obtain⟨hsz,bs,raw,rfl,hg,_⟩:=k1;obtain⟨A,c,qs,j1,j2,j4,j5⟩:=hg.Ka (by subst hsz;exact mW xs);exact⟨qs,by rw[j1];exact j2,fun b hb=>k3 b (j5 b hb)⟩
 refine⟨⟨w,G⟩,env',rs',h,hl,⟨⟨hh.E.size,hh.E.defers,fun t s' hls=> ?_⟩,?_⟩,fun t d b x hls=> ?_⟩
 .obtain⟨s0,e1,_,e3⟩:=hE t s' hls;obtain⟨v,e4,e5⟩:=hh.E.get t s0 e1;exact⟨v,e4,e3 cx ⟨w,G⟩ β a v hl.sl hl.rp hr e5⟩
 .exact hI.kK (hT cx ⟨w,G⟩ β w hl.sl hl.rp hr)
 .obtain⟨s0,e1,e2,_⟩:=hE t _ hls;obtain⟨y,rfl⟩:=e2 d b x rfl;exact⟨y,e1⟩
theorem HH.pG{q:Nat}{K:Ev->List Tok->Prop}(hh:HH cx n fr β a w env rs)(h:pG q env rs K):∃cx' env' rs',K env' rs'/\cx.le cx'/\HH cx' n fr β a w env' rs'/\∀t d b x,lk env' t=some (.gd d b x)->∃y,lk env t=some (.gd d b y):=by
 unfold Go.Tr.pG at h;obtain⟨t,s,u,xs,rest,h,hp⟩:=kW h;obtain⟨env',h,hE⟩:=vX h;obtain⟨rs',h,hT⟩:=nC h;have h1:Inv cx.w0 cx.F0 w (Tok.res cx β (.dat q t s u xs)::(rest.map (Tok.res cx β)++fr)):=hh.H.bT hp;obtain⟨G0,⟨F,G,rfl,k1,k2,k3⟩,hG⟩:=h1.sep;obtain⟨hl,hI⟩:=Inv.base h1.tail k2 fun b hb=>hG b (List.mem_append_right _ hb)
 have hr:dY w G (.sl (List.length (α:=El u) xs) (List.flatMap (enc u) xs)) (β q):=Bv hl k1 k3;refine⟨⟨w,G⟩,env',rs',h,hl,⟨⟨hh.E.size,hh.E.defers,fun t s' hls=> ?_⟩,?_⟩,fun t d b x hls=> ?_⟩
 .obtain⟨s0,e1,_,e3⟩:=hE t s' hls;obtain⟨v,e4,e5⟩:=hh.E.get t s0 e1;exact⟨v,e4,e3 cx ⟨w,G⟩ β a v hl.sl hl.rp hr e5⟩
 .exact hI.kK (hT cx ⟨w,G⟩ β w hl.sl hl.rp hr)
 .obtain⟨s0,e1,e2,_⟩:=hE t _ hls;obtain⟨y,rfl⟩:=e2 d b x rfl;exact⟨y,e1⟩
theorem HH.uh:∀{l:aG} {cx:Cx} {env:Ev} {rs:List Tok} {K:Ev->List Tok->Prop},HH cx n fr β a w env rs->xK l env rs K->∃cx' env' rs',K env' rs'/\cx.le cx'/\HH cx' n fr β a w env' rs'/\∀t d b x,lk env' t=some (.gd d b x)->∃y,lk env t=some (.gd d b y)
 |[],cx,env,rs,K,hh,h=>⟨cx,env,rs,h,Cx.le.refl cx,hh,fun t d b x hl=>⟨x,hl⟩⟩
 |g::l,cx,env,rs,K,hh,h=>by
  unfold xK at h;split at h
  .obtain⟨cx1,env1,rs1,h1,h2,h3,h4⟩:=hh.freeze h;obtain⟨cx2,env2,rs2,k1,k2,k3,k4⟩:=HH.uh h3 h1;refine⟨cx2,env2,rs2,k1,h2.trans k2,k3,fun t d b x hl=> ?_⟩;obtain⟨y,hy⟩:=k4 t d b x hl;exact h4 t d b y hy
  .split at h
   .obtain⟨cx1,env1,rs1,h1,h2,h3,h4⟩:=hh.pG h;obtain⟨cx2,env2,rs2,k1,k2,k3,k4⟩:=HH.uh h3 h1;refine⟨cx2,env2,rs2,k1,h2.trans k2,k3,fun t d b x hl=> ?_⟩;obtain⟨y,hy⟩:=k4 t d b x hl;exact h4 t d b y hy
   .exact HH.uh hh h
theorem Cu(hti:dx P ti=true)(hn0:n<=10000){ops:List Oper}{Q:Exit->Act->World->Prop}:∀{cx:Cx} (rest:List Oper) (dd:aG) {env:Ev} {rs:List Tok} {K:Ev->List Tok->Prop} {β:Nat->Value} {a:Act} {w:World},
  qm P ti n ops dd rest env rs K->HH cx n fr β a w env rs->NG env dd->
  (∀cx' env' rs' β' a' w',cx.le cx'->K env' rs'->HH cx' n fr β' a' w' env' rs'->(fO rest=false->NG env []->NG env' [])->kC (dz rest []) β β'->mQ (dz rest []) a a'->Q .normal a' w')->wpList P ops.toArray Q rest a w
 |cx,[],dd,env,rs,K,β,a,w,h,hh,hN,hQ=>hQ cx env rs β a w (Cx.le.refl cx) h hh (fun _ h=>h) (kC.refl _ _) (mQ.refl _ _)
 |cx,o::rest,dd,env,rs,K,β,a,w,h,hh,hN,hQ=>by
  rw[IE]at h
  have hw0:∀t,t∉dz (o::rest) []->t∉dz rest []:=fun t ht hm=>ht (by
   unfold dz;split
   .exact List.mem_cons_of_mem _ hm
   .exact hm)
  have hany0:fO (o::rest)=false->fO rest=false:=fun hg=>by
   unfold fO at hg;split at hg
   .cases hg
   .exact hg
  have hex:∀{gd:Nat} {gb gc:Bool},dZ ops env o.guard=.at gd gb gc->∃j,o.guard=some (j,gb)/\bY ops j=some gd/\gF env 8 gd gb=some gc:=fun {gd gb gc} hG=>by
   unfold dZ at hG;split at hG
   .cases hG
   .rename_i j b hj;split at hG
    .rename_i d' hd';split at hG
     .rename_i c hc;injection hG with e1 e2 e3
      subst e1 e2 e3;exact⟨j,hj,hd',hc⟩
     .cases hG
    .cases hG
  have hfreeG:dZ ops env o.guard=.free->o.guard=none:=fun hG=>by
   unfold dZ at hG;split at hG
   .assumption
   .split at hG
    .split at hG<;>cases hG
    .cases hG
  have hyl:∀{j gd:Nat},bY ops j=some gd->∀b,(yielded ops.toArray a.tmps j==some b)=true↔a.tmps[gd]? =some (.bool b):=fun {j gd} hj2 b=>by
   unfold yielded;rw[iZ hj2];simp only[Option.bind_some,beq_iff_eq];cases a.tmps[gd]? with
   |none=>simp
   |some y=>cases y<;>simp
  have hg0:eD a none:=fun d b e=>by cases e
  split at h
  ·
   rename_i hd
   have next:∀{rs':List Tok} {w':World},qm P ti n ops dd rest env rs' K->Inv cx.w0 cx.F0 w' (rs'.map (Tok.res cx β)++fr)->∀x,wpList P ops.toArray Q rest (a.put o.dst x) w':=fun {rs' w'} hv hI x=>by
    rw[hd];refine Cu hti hn0 rest dd hv ⟨hh.E,hI⟩ hN fun cx' env' rs'' β' a' w'' hlx hK hh' hn' hag hfr=> ?_
    refine hQ cx' env' rs'' β' a' w'' hlx hK hh' (fun hg h0=>hn' (hany0 hg) h0) (fun t ht hl=>hag t (hw0 _ ht) hl) (fun t ht=>hfr t (hw0 _ ht))
   split at h
   .exact h.elim
   .rename_i hG;have hgn:=hfreeG hG;obtain⟨dst,op,ty,pos,aft,gd⟩:=o;obtain⟨rs',h1,hW⟩:=kr (P:=P) (dst:=dst) (ty:=ty) (pos:=pos) (aft:=aft) (gd:=gd) hti h;obtain⟨nx,w',hnx,h2,h3⟩:=hW cx β n fr a w hh.E hg0 hh.H;refine eF (fun _=> ?_) (fun hw=>by simp only[Region.wanted]at hw;rw[show gd=none from hgn]at hw;cases hw);rcases hnx with rfl|⟨v,rfl⟩
    .exact .inr (.inl ⟨w',h2,next h1 h3 _⟩)
    .exact .inl ⟨v,w',h2,next h1 h3 _⟩
   .rename_i gd gb gc hG;obtain⟨j,hj1,hj2,hj3⟩:=hex hG;obtain⟨dst,op,ty,pos,aft,gd'⟩:=o
    by_cases hgt:a.tmps[gd]? =some (.bool gb)
    .have hg1:eD a (some (gd,gb)):=fun d b e=>by injection e with e;injection e with e1 e2;subst e1 e2;exact hgt
     obtain⟨rs',h1,hW⟩:=kr (P:=P) (dst:=dst) (ty:=ty) (pos:=pos) (aft:=aft) (gd:=gd') hti (h.1 (fG hh.E _ _ _ _ hj3 hgt));obtain⟨nx,w',hnx,h2,h3⟩:=hW cx β n fr a w hh.E hg1 hh.H
     refine eF (fun _=>by
      rcases hnx with rfl|⟨v,rfl⟩
      .exact .inr (.inl ⟨w',h2,next h1 h3 _⟩)
      .exact .inl ⟨v,w',h2,next h1 h3 _⟩) (fun hw=> ?_)
     simp only[Region.wanted]at hw;rw[show gd'=some (j,gb) from hj1]at hw;simp only at hw;rw[(hyl hj2 gb).2 hgt]at hw;cases hw
    .refine eF (fun hw=> ?_) (fun _=>next (h.2 (jf hh.E _ _ _ _ hj3 hgt)) hh.H _);simp only[Region.wanted]at hw;rw[show gd'=some (j,gb) from hj1]at hw;exact absurd ((hyl hj2 gb).1 hw) hgt
  .rename_i d hd;cases hb:(Nat.blt d n&& !mem d dd)with
   |false=>rw[hb]at h;exact h.elim
   |true=>
    rw[hb]at h;simp only[qG]at h;rw[qD,Bool.not_eq_true',rJ]at hb;obtain⟨hb1,hb2⟩:=hb;have hdn:d<n:=by simpa using hb1
    have hdM:d<1000000:=qW hdn (Nat.le_trans hn0 (by decide));have hfree:∀t b y,lk env t≠some (.gd d b y):=fun t b y e=>hb2 (hN t d b y e)
    have hwd:d∈dz (o::rest) []:=by unfold dz;rw[hd];simp
    have nextG:∀{cx1:Cx} {env1:Ev} {v:SV} {x:Value} {w':World} {rs':List Tok} {β':Nat->Value},cx.le cx1->(∀t d b y,lk env1 t=some (.gd d b y)->∃z,lk env t=some (.gd d b z))->qm P ti n ops (d::dd) rest ((d,v)::env1) rs' K->dF cx1 β' n a env1->bO cx1 β' (a.put (some d) x) v x->Inv cx1.w0 cx1.F0 w' (rs'.map (Tok.res cx1 β')++fr)->lJ d β β'->(∀d' b y,v=.gd d' b y->d'∈dd/\fO (o::rest)=true)->wpList P ops.toArray Q rest (a.put o.dst x) w':=by
     intro cx1 env1 v x w' rs' β' hl1 hgd hv hE hx hI hAg hgv;rw[hd]
     have hfree1:∀t b y,lk env1 t≠some (.gd d b y):=fun t b y e=>by
      obtain⟨z,hz⟩:=hgd t d b y e;exact hfree t b z hz
     have hN1:NG env1 dd:=fun t d' b y e=>by
      obtain⟨z,hz⟩:=hgd t d' b y e;exact hN t d' b z hz
     refine Cu hti hn0 rest (d::dd) hv ⟨hE.put hdn hfree1 hx,hI⟩ (hN1.cons fun d' b y e=>(hgv d' b y e).1) fun cx' env' rs'' β'' a' w'' hlx hK hh' hn' hag hfr=> ?_
     refine hQ cx' env' rs'' β'' a' w'' (hl1.trans hlx) hK hh' (fun hg h0=> ?_) (fun t ht hl=> ?_) ?_
     .refine hn' (hany0 hg) fun t d' b y hl=> ?_
      rw[aL]at hl;split at hl
      .injection hl with hl
       have:=(hgv d' b y hl).2;rw[hg]at this;cases this
      .obtain⟨z,hz⟩:=hgd t d' b y hl;exact h0 t d' b z hz
     .rw[hag t (hw0 _ ht) hl];exact hAg t fun e=>ht (e▸hwd)
     .intro t ht;have hne:t≠d:=fun e=>ht (e▸hwd)
      rw[hfr t (hw0 _ ht),dn a x hne]
    have next:∀{v:SV} {x:Value} {w':World} {rs':List Tok} {β':Nat->Value},qm P ti n ops (d::dd) rest ((d,v)::env) rs' K->dF cx β' n a env->bO cx β' (a.put (some d) x) v x->Inv cx.w0 cx.F0 w' (rs'.map (Tok.res cx β')++fr)->lJ d β β'->(∀d' b y,v=.gd d' b y->d'∈dd/\fO (o::rest)=true)->wpList P ops.toArray Q rest (a.put o.dst x) w':=fun h1 h2 h3 h4 h5 h6=>nextG (Cx.le.refl cx) (fun t d b y e=>⟨y,e⟩) h1 h2 h3 h4 h5 h6
    have hE0:lJ d β β:=fun _ _=>rfl
    have xB:∀{g:Option (Nat×Bool)},eD a g->Region.wanted o (yielded ops.toArray a.tmps)=true->(bif aA d env rs then gJ P ti env rs g d o.op fun v rs'=>qm P ti n ops (d::dd) rest ((d,v)::env) rs' K else False)->wpList P ops.toArray Q (o::rest) a w:=fun {g} hg hwt h=>by
     cases hfr:aA d env rs with
     |false=>rw[hfr]at h;exact h.elim
     |true=>
      rw[hfr]at h;simp only[qG]at h;obtain⟨v,rs',h1,hS⟩:=jv (dst:=o.dst) (ty:=o.type) (pos:=o.pos) (aft:=o.after) (gd:=o.guard) hti hdM hfr h;have h2:=hS cx β n fr a w hh.E hg hh.H;have hE:∀{β':Nat->Value},lJ d β β'->dF cx β' n a env:=fun hA=>hh.E.beta fun t s hl g hg=>hA g (jW hfr t s hl g hg)
      refine eF (fun _=> ?_) (fun hw=>by rw[hwt]at hw;cases hw);rcases h2 with⟨x,w',β',h3,h4,h5,h6⟩|⟨f,args,h3,h4⟩
      .refine .inl ⟨x,w',h3,next h1 (hE h4) (bO.of h5) h6 h4 ?_⟩;rintro d' b y rfl;unfold Den at h5;exact h5.elim
      .refine .inr (.inr ⟨f,args,h3,h4.mono fun e w' ⟨x,β',h5,h6,h7,h8⟩=>⟨x,h5,next h1 (hE h6) (bO.of h7) h8 h6 ?_⟩⟩);rintro d' b y rfl;unfold Den at h7;exact h7.elim
    split at h
    .exact h.elim
    .rename_i hG;have hgn:=hfreeG hG;have hwt:Region.wanted o (yielded ops.toArray a.tmps)=true:=by simp[Region.wanted,hgn]
     have doP:jQ P ti env rs none none o.op (fun v=>qm P ti n ops (d::dd) rest ((d,v)::env) rs K)->wpList P ops.toArray Q (o::rest) a w:=fun h=>by
      obtain⟨v,h1,h2⟩:=zq hti (fun c e=>by cases e) hh hg0 h;refine eF (fun _=> ?_) (fun hw=>by rw[hwt]at hw;cases hw);rcases h2 with⟨x,h3,h4⟩|⟨f,args,h3,h4⟩
      .refine .inl ⟨x,w,h3,next h1 hh.E (bO.of h4) hh.H hE0 ?_⟩;rintro d' b y rfl;unfold Den at h4;exact h4.elim
      .refine .inr (.inr ⟨f,args,h3,h4.mono fun e w' ⟨x,h5,h6,h7⟩=>⟨x,h5,next h1 hh.E (bO.of h6) h7 hE0 ?_⟩⟩);rintro d' b y rfl;unfold Den at h6;exact h6.elim
     split at h
     .exact doP h
     .unfold Mk at h;split at h
      .rename_i t m ps hop;split at h
       .rename_i css hcss;cases hrs:Dn css with
        |false=>
         rw[hrs]at h;refine xB hg0 hwt ?_;rw[hop];exact h
        |true=>
         rw[hrs]at h;simp only[qG]at h;split at h
         .rename_i e s u hlk;obtain⟨cx1,env1,rs1,h,hl1,hh1,hgd⟩:=hh.uh h;split at h
          .rename_i css' hcss';cases hb2:(Nat.beq css'.length m&&(Nat.blt 0 m&&Nat.ble (m*s) 16777216))with
           |false=>rw[hb2]at h;exact h.elim
           |true=>
            rw[hb2]at h;rw[qD,qD]at hb2;obtain⟨xs,k1,v,w',cx2,k2,k3,k4,k5,k6⟩:=yX (P:=P) (dst:=o.dst) (ty:=o.type) (pos:=o.pos) (aft:=o.after) (gd:=o.guard) hti hlk hh1.E hh1.H hcss' (ay hb2.1) (by simpa using hb2.2.1) (Nat.le_of_ble_eq_true hb2.2.2) h;refine eF (fun _=> ?_) (fun hw=>by rw[hwt]at hw;cases hw);refine .inl ⟨v,w',?_,nextG (hl1.trans k3) hgd k1 k5 (bO.of k4) k6 hE0 (by rintro d' b y e;cases e)⟩;obtain⟨dst,op,ty,pos,aft,gd⟩:=o;simp only at hop;subst hop;exact k2
          .exact h.elim
         .exact h.elim
       .exact h.elim
      .exact xB hg0 hwt h
     .rcases h with h|h|h
      .exact doP h
      .exact xB hg0 hwt h
      .cases hfr:aA d env rs with
       |false=>rw[hfr]at h;exact h.elim
       |true=>
        rw[hfr]at h;simp only[qG]at h;obtain⟨v,rs',h1,hS⟩:=Gj (dst:=o.dst) (ty:=o.type) (pos:=o.pos) (aft:=o.after) (gd:=o.guard) hdM hfr h;obtain⟨f,args,h3,h4⟩:=hS cx β n fr a w hh.E hg0 hh.H;refine eF (fun _=> ?_) (fun hw=>by rw[hwt]at hw;cases hw);refine .inr (.inr ⟨f,args,h3,h4.mono fun e w' ⟨x,cx1,β',h5,h5',h6,h7,h8⟩=>⟨x,h5,nextG h5' (fun t d b y e=>⟨y,e⟩) h1 ((hh.E.le h5').beta fun t s hl g hg=>h6 g (jW hfr t s hl g hg)) (bO.of h7) h8 h6 ?_⟩⟩);rintro d' b y rfl;unfold Den at h7;exact h7.elim
    .rename_i gd gb gc hG;obtain⟨j,hj1,hj2,hj3⟩:=hex hG;cases hm:mem gd dd with
     |false=>rw[hm]at h;exact h.elim
     |true=>
      rw[hm]at h;simp only[qG]at h;have hgd:gd∈dd:=mem_iff.1 hm;have hne:gd≠d:=fun e=>hb2 (e▸hgd)
      have hany:fO (o::rest)=true:=by unfold fO;rw[hj1]
      have hwt:a.tmps[gd]? =some (.bool gb)->Region.wanted o (yielded ops.toArray a.tmps)=true:=fun hgt=>by simp only[Region.wanted,hj1];exact(hyl hj2 gb).2 hgt
      have hwf:a.tmps[gd]? ≠some (.bool gb)->Region.wanted o (yielded ops.toArray a.tmps)=false:=fun hgt=>by
       simp only[Region.wanted,hj1];cases hq:(yielded ops.toArray a.tmps j==some gb)with
       |false=>rfl
       |true=>exact absurd ((hyl hj2 gb).1 hq) hgt
      have doP:jQ P ti env rs (some (gd,gb)) (some gc) o.op (fun v=>qm P ti n ops (d::dd) rest ((d,.gd gd gb v)::env) rs K)->wpList P ops.toArray Q (o::rest) a w:=fun h=>by
       by_cases hgt:a.tmps[gd]? =some (.bool gb)
       .have hgc:=fG hh.E _ _ _ _ hj3 hgt;have hg1:eD a (some (gd,gb)):=fun d b e=>by injection e with e;injection e with e1 e2;subst e1 e2;exact hgt
        obtain⟨v,h1,h2⟩:=zq hti (fun c e=>by injection e with e;exact e▸hgc) hh hg1 h;refine eF (fun _=> ?_) (fun hw=>by rw[hwt hgt]at hw;cases hw)
        have mk:∀{x:Value},Den cx β v x->bO cx β (a.put (some d) x) (.gd gd gb v) x:=fun {x} hx=>by
         show((a.put (some d) x).tmps[gd]? =some (Value.bool gb)->Den cx β v x)/\((a.put (some d) x).tmps[gd]? ≠some (Value.bool gb)->x=undef);rw[dn a x hne];exact⟨fun _=>hx,fun hn=>absurd hgt hn⟩
        rcases h2 with⟨x,h3,h4⟩|⟨f,args,h3,h4⟩
        .exact .inl ⟨x,w,h3,next h1 hh.E (mk h4) hh.H hE0 (by rintro d' b y e;injection e with e1;subst e1;exact⟨hgd,hany⟩)⟩
        .exact .inr (.inr ⟨f,args,h3,h4.mono fun e w' ⟨x,h5,h6,h7⟩=>⟨x,h5,next h1 hh.E (mk h6) h7 hE0 (by rintro d' b y e;injection e with e1;subst e1;exact⟨hgd,hany⟩)⟩⟩)
       .obtain⟨v,h1⟩:=AJ h;refine eF (fun hw=>by rw[hwf hgt]at hw;cases hw) (fun _=> ?_);refine next (v:=.gd gd gb v) (x:=undef) (w':=w) h1 hh.E ?_ hh.H hE0 (by rintro d' b y e;injection e with e1;subst e1;exact⟨hgd,hany⟩);show((a.put (some d) undef).tmps[gd]? =some (Value.bool gb)->Den cx β v undef)/\((a.put (some d) undef).tmps[gd]? ≠some (Value.bool gb)->undef=undef);rw[dn a undef hne];exact⟨fun hn=>absurd hn hgt,fun _=>rfl⟩
      have doS2:((gc=true->bif aA d env rs then gJ P ti env rs (some (gd,gb)) d o.op fun v rs'=>qm P ti n ops (d::dd) rest ((d,v)::env) rs' K else False)/\(gc=false->qm P ti n ops (d::dd) rest ((d,.un)::env) rs K))->wpList P ops.toArray Q (o::rest) a w:=fun h=>by
       by_cases hgt:a.tmps[gd]? =some (.bool gb)
       .have hg1:eD a (some (gd,gb)):=fun d b e=>by injection e with e;injection e with e1 e2;subst e1 e2;exact hgt
        exact xB hg1 (hwt hgt) (h.1 (fG hh.E _ _ _ _ hj3 hgt))
       .refine eF (fun hw=>by rw[hwf hgt]at hw;cases hw) (fun _=> ?_);exact next (v:=.un) (x:=undef) (w':=w) (h.2 (jf hh.E _ _ _ _ hj3 hgt)) hh.E (bO.of (by unfold Den;rfl)) hh.H hE0 (by rintro d' b y e;cases e)
      have doS3:((gc=true->bif aA d env rs then gJ P ti env rs (some (gd,gb)) d o.op fun v rs'=>qm P ti n ops (d::dd) rest ((d,v)::env) rs' K else False)/\(gc=false->∃v,qm P ti n ops (d::dd) rest ((d,.gd gd gb v)::env) rs K))->wpList P ops.toArray Q (o::rest) a w:=fun h=>by
       by_cases hgt:a.tmps[gd]? =some (.bool gb)
       .have hg1:eD a (some (gd,gb)):=fun d b e=>by injection e with e;injection e with e1 e2;subst e1 e2;exact hgt
        exact xB hg1 (hwt hgt) (h.1 (fG hh.E _ _ _ _ hj3 hgt))
       .obtain⟨v,h1⟩:=h.2 (jf hh.E _ _ _ _ hj3 hgt);refine eF (fun hw=>by rw[hwf hgt]at hw;cases hw) (fun _=> ?_);refine next (v:=.gd gd gb v) (x:=undef) (w':=w) h1 hh.E ?_ hh.H hE0 (by rintro d' b y e;injection e with e1;subst e1;exact⟨hgd,hany⟩);show((a.put (some d) undef).tmps[gd]? =some (Value.bool gb)->Den cx β v undef)/\((a.put (some d) undef).tmps[gd]? ≠some (Value.bool gb)->undef=undef);rw[dn a undef hne];exact⟨fun hn=>absurd hn hgt,fun _=>rfl⟩
      split at h
      .exact doP h
      .exact doS2 h
      .rcases h with h|h
       .exact doP h
       .exact doS3 h
 termination_by _ rest=>rest.length
def zV(cx:Cx)(n:Nat)(fr:List bn)(wl:List Nat)(β:Nat->Value)(a:Act)(K:X->Ev->List Tok->Prop)(e:Exit)(a':Act)(w':World):Prop:=
 ∃x env' rs' β' cx',Fj e x/\K x env' rs'/\HH cx' n fr β' a' w' env' rs'/\cx.le cx'/\GF env'/\kC wl β β'/\mQ wl a a'
theorem Nk(hti:dx P ti=true)(hn0:n<=10000)(hm:P.follows .mixedOrders=true):∀(c:Code) {cx:Cx} {env:Ev} {rs:List Tok} {K:X->Ev->List Tok->Prop} {β:Nat->Value} {a:Act} {w:World},Eh P ti n c env rs K->HH cx n fr β a w env rs->GF env->c.wp P (zV cx n fr (wr c []) β a K) a w:=by
 intro c
 induction c with
 |skip=>intro cx env rs K β a w h hh hg;exact wp_skip ⟨.n,env,rs,β,cx,trivial,h,hh,Cx.le.refl cx,hg,kC.refl _ _,mQ.refl _ _⟩
 |ret=>intro cx env rs K β a w h hh hg;exact wp_ret ⟨.r,env,rs,β,cx,trivial,h,hh,Cx.le.refl cx,hg,kC.refl _ _,mQ.refl _ _⟩
 |exit id=>intro cx env rs K β a w h hh hg;exact wp_exit ⟨.x id,env,rs,β,cx,rfl,h,hh,Cx.le.refl cx,hg,kC.refl _ _,mQ.refl _ _⟩
 |seq x y ihx ihy=>
  intro cx env rs K β a w h hh hg;rw[KD]at h;have hx:∀t∈wr x [],t∈wr (.seq x y) []:=fun t ht=>by unfold wr;rw[mM];exact .inl ht
  have hy:∀t∈wr y [],t∈wr (.seq x y) []:=fun t ht=>by unfold wr;rw[mM];exact .inr ht
  refine wp_seq (wp_mono (ihx h hh hg) ?_);rintro e a' w' ⟨q,env',rs',β',cx1,h1,h2,h3,hl,h4,h5,h6⟩;cases e<;>cases q<;>simp only[Fj]at h1
  .refine wp_mono (ihy h2 h3 h4) ?_;rintro e a'' w'' ⟨q,env'',rs'',β'',cx2,k1,k2,k3,kl,k4,k5,k6⟩;exact⟨q,env'',rs'',β'',cx2,k1,k2,k3,hl.trans kl,k4,(h5.mono hx).trans (k5.mono hy),(h6.mono hx).trans (k6.mono hy)⟩
  .exact⟨.x _,env',rs',β',cx1,h1,h2,h3,hl,h4,h5.mono hx,h6.mono hx⟩
  .exact⟨.r,env',rs',β',cx1,trivial,h2,h3,hl,h4,h5.mono hx,h6.mono hx⟩
 |cond c x y ihx ihy=>
  intro cx env rs K β a w h hh hg;rw[II]at h;have hx:∀t∈wr x [],t∈wr (.cond c x y) []:=fun t ht=>by unfold wr;rw[mM];exact .inl ht
  have hy:∀t∈wr y [],t∈wr (.cond c x y) []:=fun t ht=>by unfold wr;rw[mM];exact .inr ht
  split at h
  .rename_i t ht;obtain⟨v,h1,h2⟩:=ak hh.E (g:=none) (fun d b e=>by cases e) ht;rw[dW h2]at h1;refine wp_cond_split h1 (fun e=> ?_) (fun e=> ?_)
   .refine wp_mono (ihx (h.1 e) hh hg) ?_;rintro e a' w' ⟨q,env',rs',β',cx1,h1,h2,h3,hl,h4,h5,h6⟩;exact⟨q,env',rs',β',cx1,h1,h2,h3,hl,h4,h5.mono hx,h6.mono hx⟩
   .refine wp_mono (ihy (h.2 e) hh hg) ?_;rintro e a' w' ⟨q,env',rs',β',cx1,h1,h2,h3,hl,h4,h5,h6⟩;exact⟨q,env',rs',β',cx1,h1,h2,h3,hl,h4,h5.mono hy,h6.mono hy⟩
  .exact h.elim
 |block id x ih=>
  intro cx env rs K β a w h hh hg;rw[EY]at h;refine wp_block (wp_mono (ih h hh hg) ?_);rintro e a' w' ⟨q,env',rs',β',cx1,h1,h2,h3,hl,h4,h5,h6⟩;cases e<;>cases q<;>simp only[Fj]at h1
  .exact⟨.n,env',rs',β',cx1,trivial,h2,h3,hl,h4,h5,h6⟩
  .rename_i id1 id2;subst h1;simp only at h2;show if id1=id then zV cx n fr (wr (Code.block id x) []) β a K Exit.normal a' w' else zV cx n fr (wr (Code.block id x) []) β a K (Exit.exit id1) a' w'
   cases hb:Nat.beq id1 id with
   |true=>
    rw[hb]at h2;rw[if_pos (ay hb)];exact⟨.n,env',rs',β',cx1,trivial,h2,h3,hl,h4,h5,h6⟩
   |false=>
    rw[hb]at h2;have hne:id1≠id:=fun e=>by subst e;simp at hb
    rw[if_neg hne];exact⟨.x id1,env',rs',β',cx1,rfl,h2,h3,hl,h4,h5,h6⟩
  .exact⟨.r,env',rs',β',cx1,trivial,h2,h3,hl,h4,h5,h6⟩
 |region id ops dr=>
  intro cx env rs K β a w h hh hg;cases dr with
  |true=>
   rw[IJ]at h
   have:=IC (id:=id) (Q:=zV cx n fr (wr (.region id ops true) []) β a K) hti hn0 hm h hh hg fun cx1 env' rs' β' a' w' hlx hK hh' hn hag hf=>by
    cases hb:fO ops.toList with
    |true=>
     rw[hb]at hK;obtain⟨env2,h1,h2⟩:=jh [] hK;exact⟨.n,env2,rs',β',cx1,trivial,h1,⟨hh'.E.sub fun t s hl=>(h2 t s hl).2.1,hh'.H⟩,hlx,fun t d b x hl=>absurd rfl ((h2 t _ hl).2.2 d b x),hag,hf⟩
    |false=>
     rw[hb]at hK;exact⟨.n,env',rs',β',cx1,trivial,hK,hh',hlx,hn hb,hag,hf⟩
   simpa using this
  |false=>
   rw[KC]at h
   have key:wpList P ops.toList.toArray (zV cx n fr (wr (.region id ops false) []) β a K) ops.toList a w:=by
    refine Cu hti hn0 ops.toList [] h hh hg fun cx1 env' rs' β' a' w' hlx hK hh' hn hag hf=> ?_
    cases hb:fO ops.toList with
    |true=>
     rw[hb]at hK;obtain⟨env2,h1,h2⟩:=jh [] hK;exact⟨.n,env2,rs',β',cx1,trivial,h1,⟨hh'.E.sub fun t s hl=>(h2 t s hl).2.1,hh'.H⟩,hlx,fun t d b x hl=>absurd rfl ((h2 t _ hl).2.2 d b x),hag,hf⟩
    |false=>
     rw[hb]at hK;exact⟨.n,env',rs',β',cx1,trivial,hK,hh',hlx,hn hb hg,hag,hf⟩
   exact wp_region_list key
 |loop body ih=>
  intro cx env rs K β a w h hh hg;rw[IK]at h;obtain⟨L,⟨hL0,hl⟩,h⟩:=h;have hw:wr (.loop body) []=wr body []:=rfl;refine wp_loop_ghost (fun m a' w'=>∃s β',L.I s/\m=L.μ s/\kC (wr body []) β β'/\mQ (wr body []) a a'/\∃cx1 env' rs',cx.le cx1/\fV env' rs' (L.U s) (L.T s)/\GF env'/\HH cx1 n fr β' a' w' env' rs') (L.μ L.s0) ⟨L.s0,β,hL0,rfl,kC.refl _ _,mQ.refl _ _,cx,env,rs,Cx.le.refl cx,hl,hg,hh⟩ ?_;rintro m a1 w1 ⟨s,β1,hLs,rfl,hA,hF,cx0,env1,rs1,hl0,hle,hg1,hh1⟩;obtain⟨kept,hk,hk2⟩:=l9 _ (h s hLs);have hk:=yA hk
  obtain⟨β2,hE,hG,hA2⟩:=hh1.head hg1 hle (hh.E.le hl0) hg hk2 hA hF;obtain⟨rsG,hk,hI⟩:=L.ok s _ cx0 β2 w1 fr hk hE.H;refine wp_mono (ih hk ⟨hE.E,hI⟩ hG) ?_;rintro e a' w' ⟨q,env',rs',β',cx1,h1,h2,h3,hl,h4,h5,h6⟩;have hA3:=(hA.trans hA2).trans h5;cases e<;>cases q<;>simp only[Fj]at h1
  .obtain⟨s',⟨k0,k1⟩,k3⟩:=h2;exact⟨L.μ s',k3,s',β',k0,rfl,hA3,hF.trans h6,cx1,env',rs',hl0.trans hl,k1,h4,h3⟩
  .exact⟨.x _,env',rs',β',cx1,h1,h2,h3,hl0.trans hl,h4,hA3,hF.trans h6⟩
  .exact⟨.r,env',rs',β',cx1,trivial,h2,h3,hl0.trans hl,h4,hA3,hF.trans h6⟩
 |_=>intro cx env rs K β a w h hh hg;exact(show False from h).elim
theorem bI.intro(hti:dx P ti=true)(hm:P.follows .mixedOrders=true){f nt:Nat}{fn:Func}{c:Code}{rv:List ResultVar}{args:List SV}{ts ts':List Tok}{r:SV}(hok:aU P f=true)(hf:P.funcs[f]? =some fn)(hb:fn.body=some c)(hn:fn.ntmps=nt)(hr:fn.results=rv.toArray)
  (ha:(Nat.ble args.length nt&&(Nat.ble rv.length 4&&Nat.ble nt 10000))=true) (hw:(wr c []).all (fun t=>Nat.blt t 10000)=true) (ht:Nat.ble ts.length 1000=true) (h:Qc P ti nt c rv args ts r ts'):bI P f args ts r ts':=by
 refine⟨hok,fun cx β w fr vs hI hd=> ?_⟩;rw[qD,qD]at ha;have hn0:nt<=10000:=by simpa using ha.2.2
 obtain⟨hE,hG⟩:=vV (n:=nt) hd (by simpa using ha.1);refine calls_of_wp hf hb ?_;rw[hn];refine wp_mono (Nk (n:=nt) (fr:=fr) hti hn0 hm c h ⟨hE,hI⟩ hG) ?_;rintro e a' w' ⟨q,env',rs',β',cx',h1,h2,h3,hle,h4,h5,h6⟩
 have done:(∃(σ:List (Nat×Nat)) (M:List tJ),jX M env' rs' fun env' rs'=>D5 true (ig (rE ts.length 10000) σ) r (fun r'=>tO ti env' rs' rv r')/\gI true (ig (rE ts.length 10000) σ) ts' fun ts''=>cZ rs' ts'')->
   ∃v,(results fn a'.tmps).run P w'=.ok v w'/\∃x cx' β2,Ending.returned v=.returned x/\cx.le cx'/\(∀g,10000<=g->g<10000+ts.length->β2 g=β g)/\Den cx' β2 r x/\Inv cx'.w0 cx'.F0 w' (ts'.map (Tok.res cx' β2)++fr):=fun⟨σ,M,hM⟩=>by
  obtain⟨env1,rs1,β1,⟨k1,k2⟩,hh1,hg1,hβ1⟩:=h3.Av h4 hM
  replace h5:kC (wr c []) β β1:=h5.trans fun g _ hlt=>hβ1 g hlt
  replace h3:=hh1
  replace h4:=hg1
  clear hM hβ1 hh1 hg1 h2;revert k1 k2 h3 h4 h5;generalize env1=env',rs1=rs',β1=β';intro k1 k2 h5 h3 h4;obtain⟨r',j1,j2⟩:=om k1;obtain⟨ts'',j3,_,j4⟩:=gU k2;obtain⟨v,q1,q2⟩:=oh (P:=P) (w:=w') hti h3.E h4 h3.H hr ha.2.1 j1
  let β2:Nat->Value:=fun g=>match lk (ig (rE ts.length 10000) σ) g with|some h=>β' h|none=>β' g
  have hR:E8 true (ig (rE ts.length 10000) σ) β2 β':=fun g g' hl=>by
   rcases hl with hl|⟨hl,_⟩
   .show β' g'=(match lk (ig (rE ts.length 10000) σ) g with|some h=>β' h|none=>β' g);rw[hl]
   .cases hl
  refine⟨v,q1,v,cx',β2,rfl,hle,fun g hg1 hg2=> ?_,(j2 cx' β2 β' hR v).2 q2,(eG j3 h3.H).kK (dL (fun _ _ h F=>(h F).2) (gN (j4 cx' β2 β' hR w')))⟩
  have e1:β2 g=β' g:=by
   show(match lk (ig (rE ts.length 10000) σ) g with|some h=>β' h|none=>β' g)=_;rw[BK hg1 hg2]
  rw[e1];have ht':ts.length<=1000:=by simpa using ht
  have hgm:g % 1000000=g:=Nat.mod_eq_of_lt (by omega);refine h5 g ?_ (by rw[hgm];omega);rw[hgm];intro hm;rw[List.all_eq_true]at hw;have:=hw g hm;have h7:g<10000:=by simpa using this
  omega
 cases e<;>cases q<;>simp only[Fj]at h1
 .exact⟨h3.E.defers,done h2⟩
 .exact h2.elim
 .exact⟨h3.E.defers,done h2⟩
end
end Go.Tr
