
/- The symbolic machine with calls that leave data which is never written again: regions whose order is open. -/
import Derived.Test.YtbakpddomlgjbaaWa
set_option linter.unusedSimpArgs false
set_option linter.unusedVariables false
namespace Go.Tr
open Go Go.RowKit
universe u
def RZ(P:Program)(rs:List Tok)(d f:Nat)(vs:List SV)(K:SV->List Tok->Prop):Prop:=
 La 64 (dB vs (bif Cw vs then qc rs else[])) rs 10000 fun tk σ rest=>A8 true σ vs fun vs'=>gI true σ tk fun tk'=>
  ∃r ts',bI P f vs' tk' r ts'/\D5 true (nK d σ 10000) r fun r'=>gI true (nK d σ 10000) ts' fun ts''=>CP ts'' rest fun rs'=>K r' rs'
def Ml(P:Program)(env:Ev)(rs:List Tok)(d:Nat)(op:Op)(K:SV->List Tok->Prop):Prop:=match op with
 | .call c=>match c.callee with
  | .value x=>match evs env none x,uW env none c.args.toList with
   |some (.fn f l),some vs=>RZ P rs d f (vs++l) K
   |_,_=>False
  |_=>False
 |_=>False
def iL(P:Program)(ti:TI)(nt:Nat)(ops:List Oper)(dl:List (Nat×Nat))(base:Ev)(olds:List dR)(anc:List (List Nat))(i:Nat)(l:List Oper):List dR->List aT->List (List Nat)->(Ev->List Tok->Prop)->Prop:=
 List.rec (motive:=fun _=>Nat->List dR->List aT->List (List Nat)->(Ev->List Tok->Prop)->Prop) (fun _ ents labs rds K=>dG.good ⟨rds,labs.map (fun x=>⟨x.prod,x.cons⟩),anc⟩ ops.toArray nt=true/\Br ents base fun env=>sZ labs fun rs=>K env rs) (fun o _ ih i ents labs rds K=>match nth anc i with
  |none=>False
  |some A=>AB anc i olds base fun base'=>Aj A ents base' fun env=>
  match iP ops env A o.guard,o.dst with
  | .no,_=>False
  | .free,none=>bS i (d9 env none o.op.operands.toList labs) labs fun labs1 rs=>gV ti env rs none o.op fun rs'=>(bif aR dl i A (aH rs' [])then bU i labs1 rs' fun labs2=>aP rds [] fun rds'=>ih (i+1) ents labs2 rds' K else False)
  | .at _ _ _,none=>False
  | .free,some d=>bif !Nat.blt d nt then False else match kind o.op with
   | .pure=>uz (bif AZ o.op then d9 env none o.op.operands.toList labs else[]) labs 0 fun rd rs=>jQ P ti env rs none none o.op fun v=>bif bG v&&aR dl i A (v.names [])then aP rds rd fun rds'=>ih (i+1) (⟨i,d,v⟩::ents) labs rds' K else False
   | .st=>bif isLit env o.op then(Qz ti env o.op fun v=>bif bG v&&aR dl i A (v.names [])then aP rds [] fun rds'=>ih (i+1) (⟨i,d,v⟩::ents) labs rds' K else False)else(bS i (d9 env none o.op.operands.toList labs) labs fun labs1 rs=>bif aA d env rs then gJ P ti env rs none d o.op fun v rs'=>(bif bG v&&aR dl i A (v.names (aH rs' []))then bU i labs1 rs' fun labs2=>aP rds [] fun rds'=>ih (i+1) (⟨i,d,v⟩::ents) labs2 rds' K else False)else False)
   | .call=>(gK (d9 env none o.op.operands.toList labs) [] fun ns0=>match ns0 with
    |[]=>jQ P ti env [] none none o.op fun v=>bif bG v&&aR dl i A (v.names [])then aP rds [] fun rds'=>ih (i+1) (⟨i,d,v⟩::ents) labs rds' K else False
    |_::_=>fJ labs 4 ns0 fun ns=>uz ns labs 0 fun rd rs=>bif aA d env rs then gJ P ti env rs none d o.op fun v rs'=>∃new,rs'=rs++new/\(bif bG v&&aR dl i A (v.names (aH new []))then bU i labs new fun labs2=>aP rds rd fun rds'=>ih (i+1) (⟨i,d,v⟩::ents) labs2 rds' K else False)else False)\/
    (gK (d9 env none o.op.operands.toList labs) [] fun ns0=>fJ labs 4 ns0 fun ns=>bS i ns labs fun labs1 rs=>bif aA d env rs then gJ P ti env rs none d o.op fun v rs'=>(bif bG v&&aR dl i A (v.names (aH rs' []))then bU i labs1 rs' fun labs2=>aP rds [] fun rds'=>ih (i+1) (⟨i,d,v⟩::ents) labs2 rds' K else False)else False)\/
    (gK (d9 env none o.op.operands.toList labs) [] fun ns0=>fJ labs 4 ns0 fun ns=>bS i ns labs fun labs1 rs=>bif aA d env rs then Ml P env rs d o.op fun v rs'=>(bif bG v&&aR dl i A (v.names (aH rs' []))then bU i labs1 rs' fun labs2=>aP rds [] fun rds'=>ih (i+1) (⟨i,d,v⟩::ents) labs2 rds' K else False)else False)
  | .at gd gb gc,some d=>bif Nat.beq gd d|| !Nat.blt d nt then False else match kind o.op with
   | .st=>(gc=true->bS i (d9 env (some (gd,gb)) o.op.operands.toList labs) labs fun labs1 rs=>bif aA d env rs then gJ P ti env rs (some (gd,gb)) d o.op fun v rs'=>(bif bG v&&aR dl i A (v.names (aH rs' []))then bU i labs1 rs' fun labs2=>aP rds [] fun rds'=>ih (i+1) (⟨i,d,v⟩::ents) labs2 rds' K else False)else False)/\(gc=false->aP rds [] fun rds'=>ih (i+1) (⟨i,d,.un⟩::ents) labs rds' K)
   | .pure=>uz (bif AZ o.op then d9 env (some (gd,gb)) o.op.operands.toList labs else[]) labs 0 fun rd rs=>jQ P ti env rs (some (gd,gb)) (some gc) o.op fun v=>bif bG v&&aR dl i A (v.names [])then aP rds rd fun rds'=>ih (i+1) (⟨i,d,.gd gd gb v⟩::ents) labs rds' K else False
   | .call=>(jQ P ti env [] (some (gd,gb)) (some gc) o.op fun v=>bif bG v&&aR dl i A (v.names [])then aP rds [] fun rds'=>ih (i+1) (⟨i,d,.gd gd gb v⟩::ents) labs rds' K else False)\/
    ((gc=true->gK (d9 env (some (gd,gb)) o.op.operands.toList labs) [] fun ns0=>fJ labs 4 ns0 fun ns=>bS i ns labs fun labs1 rs=>bif aA d env rs then gJ P ti env rs (some (gd,gb)) d o.op fun v rs'=>(bif bG v&&aR dl i A (v.names (aH rs' []))then bU i labs1 rs' fun labs2=>aP rds [] fun rds'=>ih (i+1) (⟨i,d,v⟩::ents) labs2 rds' K else False)else False)/\(gc=false->∃v,bif bG v&&aR dl i A (v.names [])then aP rds [] fun rds'=>ih (i+1) (⟨i,d,.gd gd gb v⟩::ents) labs rds' K else False))) l i
theorem Iy{P:Program}{ti:TI}{nt:Nat}{ops:List Oper}{dl:List (Nat×Nat)}{base:Ev}{olds:List dR}{anc:List (List Nat)}{i:Nat}{ents:List dR}{labs:List aT}{rds:List (List Nat)}{K:Ev->List Tok->Prop}:iL P ti nt ops dl base olds anc i [] ents labs rds K=(dG.good ⟨rds,labs.map (fun x=>⟨x.prod,x.cons⟩),anc⟩ ops.toArray nt=true/\Br ents base fun env=>sZ labs fun rs=>K env rs):=rfl
theorem EX{P:Program}{ti:TI}{nt:Nat}{ops:List Oper}{dl:List (Nat×Nat)}{base:Ev}{olds:List dR}{anc:List (List Nat)}{i:Nat}{o:Oper}{rest:List Oper}{ents:List dR}{labs:List aT}{rds:List (List Nat)}{K:Ev->List Tok->Prop}:iL P ti nt ops dl base olds anc i (o::rest) ents labs rds K=(match nth anc i with
  |none=>False
  |some A=>AB anc i olds base fun base'=>Aj A ents base' fun env=>
  match iP ops env A o.guard,o.dst with
  | .no,_=>False
  | .free,none=>bS i (d9 env none o.op.operands.toList labs) labs fun labs1 rs=>gV ti env rs none o.op fun rs'=>(bif aR dl i A (aH rs' [])then bU i labs1 rs' fun labs2=>aP rds [] fun rds'=>iL P ti nt ops dl base olds anc (i+1) rest ents labs2 rds' K else False)
  | .at _ _ _,none=>False
  | .free,some d=>bif !Nat.blt d nt then False else match kind o.op with
   | .pure=>uz (bif AZ o.op then d9 env none o.op.operands.toList labs else[]) labs 0 fun rd rs=>jQ P ti env rs none none o.op fun v=>bif bG v&&aR dl i A (v.names [])then aP rds rd fun rds'=>iL P ti nt ops dl base olds anc (i+1) rest (⟨i,d,v⟩::ents) labs rds' K else False
   | .st=>bif isLit env o.op then(Qz ti env o.op fun v=>bif bG v&&aR dl i A (v.names [])then aP rds [] fun rds'=>iL P ti nt ops dl base olds anc (i+1) rest (⟨i,d,v⟩::ents) labs rds' K else False)else(bS i (d9 env none o.op.operands.toList labs) labs fun labs1 rs=>bif aA d env rs then gJ P ti env rs none d o.op fun v rs'=>(bif bG v&&aR dl i A (v.names (aH rs' []))then bU i labs1 rs' fun labs2=>aP rds [] fun rds'=>iL P ti nt ops dl base olds anc (i+1) rest (⟨i,d,v⟩::ents) labs2 rds' K else False)else False)
   | .call=>(gK (d9 env none o.op.operands.toList labs) [] fun ns0=>match ns0 with
    |[]=>jQ P ti env [] none none o.op fun v=>bif bG v&&aR dl i A (v.names [])then aP rds [] fun rds'=>iL P ti nt ops dl base olds anc (i+1) rest (⟨i,d,v⟩::ents) labs rds' K else False
    |_::_=>fJ labs 4 ns0 fun ns=>uz ns labs 0 fun rd rs=>bif aA d env rs then gJ P ti env rs none d o.op fun v rs'=>∃new,rs'=rs++new/\(bif bG v&&aR dl i A (v.names (aH new []))then bU i labs new fun labs2=>aP rds rd fun rds'=>iL P ti nt ops dl base olds anc (i+1) rest (⟨i,d,v⟩::ents) labs2 rds' K else False)else False)\/
    (gK (d9 env none o.op.operands.toList labs) [] fun ns0=>fJ labs 4 ns0 fun ns=>bS i ns labs fun labs1 rs=>bif aA d env rs then gJ P ti env rs none d o.op fun v rs'=>(bif bG v&&aR dl i A (v.names (aH rs' []))then bU i labs1 rs' fun labs2=>aP rds [] fun rds'=>iL P ti nt ops dl base olds anc (i+1) rest (⟨i,d,v⟩::ents) labs2 rds' K else False)else False)\/
    (gK (d9 env none o.op.operands.toList labs) [] fun ns0=>fJ labs 4 ns0 fun ns=>bS i ns labs fun labs1 rs=>bif aA d env rs then Ml P env rs d o.op fun v rs'=>(bif bG v&&aR dl i A (v.names (aH rs' []))then bU i labs1 rs' fun labs2=>aP rds [] fun rds'=>iL P ti nt ops dl base olds anc (i+1) rest (⟨i,d,v⟩::ents) labs2 rds' K else False)else False)
  | .at gd gb gc,some d=>bif Nat.beq gd d|| !Nat.blt d nt then False else match kind o.op with
   | .st=>(gc=true->bS i (d9 env (some (gd,gb)) o.op.operands.toList labs) labs fun labs1 rs=>bif aA d env rs then gJ P ti env rs (some (gd,gb)) d o.op fun v rs'=>(bif bG v&&aR dl i A (v.names (aH rs' []))then bU i labs1 rs' fun labs2=>aP rds [] fun rds'=>iL P ti nt ops dl base olds anc (i+1) rest (⟨i,d,v⟩::ents) labs2 rds' K else False)else False)/\(gc=false->aP rds [] fun rds'=>iL P ti nt ops dl base olds anc (i+1) rest (⟨i,d,.un⟩::ents) labs rds' K)
   | .pure=>uz (bif AZ o.op then d9 env (some (gd,gb)) o.op.operands.toList labs else[]) labs 0 fun rd rs=>jQ P ti env rs (some (gd,gb)) (some gc) o.op fun v=>bif bG v&&aR dl i A (v.names [])then aP rds rd fun rds'=>iL P ti nt ops dl base olds anc (i+1) rest (⟨i,d,.gd gd gb v⟩::ents) labs rds' K else False
   | .call=>(jQ P ti env [] (some (gd,gb)) (some gc) o.op fun v=>bif bG v&&aR dl i A (v.names [])then aP rds [] fun rds'=>iL P ti nt ops dl base olds anc (i+1) rest (⟨i,d,.gd gd gb v⟩::ents) labs rds' K else False)\/
    ((gc=true->gK (d9 env (some (gd,gb)) o.op.operands.toList labs) [] fun ns0=>fJ labs 4 ns0 fun ns=>bS i ns labs fun labs1 rs=>bif aA d env rs then gJ P ti env rs (some (gd,gb)) d o.op fun v rs'=>(bif bG v&&aR dl i A (v.names (aH rs' []))then bU i labs1 rs' fun labs2=>aP rds [] fun rds'=>iL P ti nt ops dl base olds anc (i+1) rest (⟨i,d,v⟩::ents) labs2 rds' K else False)else False)/\(gc=false->∃v,bif bG v&&aR dl i A (v.names [])then aP rds [] fun rds'=>iL P ti nt ops dl base olds anc (i+1) rest (⟨i,d,.gd gd gb v⟩::ents) labs rds' K else False))):=rfl
def Ef(P:Program)(ti:TI)(nt:Nat)(ops:List Oper)(env:Ev)(rs:List Tok)(K:Ev->List Tok->Prop):Prop:=
 uN (jC ops 0) [] env fun base olds=>CO ops [] fun anc=>zK rs fun labs=>bif uS (jC ops 0) (gL base (iI olds (iG labs [])))then iL P ti nt ops (jC ops 0) base olds anc 0 ops [] labs [] K else False
section
variable {cx cx':Cx}{β β' β'':Nat->Value}{P:Program}{ti:TI}{n:Nat}{a a' a'':Act}{env env':Ev}{rs:List Tok}{fr:List bn}{w w':World}{g:Option (Nat×Bool)}{v:SV}{dst:Option Nat}{ty:TypeId}{pos:String}{aft:Array Edge}{gd:Option (Nat×Bool)}
def GvG(P:Program)(cx:Cx)(β:Nat->Value)(fr:List bn)(a:Act)(w:World)(d:Nat)(o:Oper)(v:SV)(rs':List Tok):Prop:=
 ∃f args,(execOp a.eval o).run P w=.ok (.enter f args) w/\Calls P f args w fun e w'=>∃x cx' β',e=.returned x/\cx.le cx'/\lJ d β β'/\Den cx' β' v x/\Inv cx'.w0 cx'.F0 w' (rs'.map (Tok.res cx' β')++fr)
def Rp(P:Program)(env:Ev)(rs:List Tok)(g:Option (Nat×Bool))(d:Nat)(o:Oper)(v:SV)(rs':List Tok):Prop:=∀(cx:Cx) (β:Nat->Value) (n:Nat) (fr:List bn) (a:Act) (w:World),dF cx β n a env->eD a g->Inv cx.w0 cx.F0 w (rs.map (Tok.res cx β)++fr)->GvG P cx β fr a w d o v rs'
theorem Mg{d f:Nat}(hd:d<1000000)(hf:aA d env rs=true){vs l:List SV}{y:Operand}{xs:List Operand}(hy:evs env g y=some (.fn f l))(hvs:uW env g xs=some vs){K:SV->List Tok->Prop}(h:RZ P rs d f (vs++l) K){tys:Array TypeId}:
  ∃v rs',K v rs'/\Rp P env rs g d ⟨dst,.call ⟨.value y,xs.toArray,tys⟩,ty,pos,aft,gd⟩ v rs':=by
 unfold RZ at h;obtain⟨tk,σ,rest,h,hp,hσ,hσ2⟩:=zP h;obtain⟨vs',h,hv⟩:=kU h;obtain⟨tk',h,htl,ht⟩:=gU h;obtain⟨r,ts',⟨hok,hq⟩,h⟩:=h;obtain⟨r',h,hr⟩:=om h;obtain⟨ts'',h,_,hts⟩:=gU h;have h:=uM h;refine⟨r',ts''++rest,h,fun cx β n fr a w E hg hH=> ?_⟩;have hx0:=o8 E hg hvs;obtain⟨fv,e1,e2⟩:=ak E hg hy;unfold Den at e2;obtain⟨cs,rfl,e3⟩:=e2;have hx:=hx0.app e3
 let βc:Nat->Value:=fun c=>match σ[c-10000]? with|some (g,_)=>β g|none=>β c
 have hσm:∀g c,(g,c)∈σ->∃j t,tk[j]? =some t/\g=t.name/\c=10000+j:=fun g c hm=>by
  obtain⟨j,hj⟩:=List.getElem?_of_mem hm;have hlt:j<tk.length:=by rw[<-hσ];exact(qE.1 hj).1
  have h1:=hσ2 j tk[j] (qB hlt);rw[hj]at h1;injection h1 with h1
  injection h1 with h2 h3
  exact⟨j,_,qB hlt,h2,h3⟩
 have hβc:∀j t,tk[j]? =some t->βc (10000+j)=β t.name:=fun j t hj=>by
  show(match σ[10000+j-10000]? with|some (g,_)=>β g|none=>β (10000+j))=_;rw[Nat.add_sub_cancel_left,hσ2 j t hj]
 have hR:E8 true σ β βc:=fun g g' hl=>by
  rcases hl with hl|⟨h1,_⟩
  .obtain⟨j,t,h1,rfl,rfl⟩:=hσm g g' (kN hl);exact hβc j t h1
  .cases h1
 have hI:Inv cx.w0 cx.F0 w (tk'.map (Tok.res cx βc)++(rest.map (Tok.res cx β)++fr)):=by
  have h1:=hH.bT hp;rw[qZ,qF]at h1;exact h1.kK (dL (fun _ _ h F=>(h F).1) (ht cx β βc hR w))
 refine⟨f,_,uy e1 rfl hok,?_⟩;refine(hq cx βc w _ _ hI ((hv cx β βc hR _).1 hx)).mono fun e w' hpost=> ?_
 obtain⟨x,cx',βc',rfl,hle,hag,hdr,hI'⟩:=hpost
 let β2:Nat->Value:=fun g=>if g % 1000000=d then βc' (10000+tk.length+g/1000000)else β g
 have hA:lJ d β β2:=fun g hg=>by show(if g % 1000000=d then _ else β g)=β g;rw[if_neg hg]
 have hR2:E8 true (nK d σ 10000) βc' β2:=fun c g hl=>by
  rcases hl with hl|⟨h1,_⟩
  .rcases rz (kN hl)with hm|⟨m,h1,h2,h3⟩
   .obtain⟨j,t,k1,rfl,rfl⟩:=hσm g c hm;have hlt:j<tk.length:=(qE.1 k1).1;have hmem:t∈rs:=hp.mem_iff.2 (List.mem_append_left _ (List.mem_of_getElem? k1));have hne:=gG hf t hmem t.name (by cases t<;>simp[Tok.names,Tok.name]);rw[hA _ hne,hag (10000+j) (by omega) (by rw[htl];omega),hβc j t k1]
   .show(if g % 1000000=d then βc' (10000+tk.length+g/1000000)else β g)=_;have e1:g % 1000000=d:=by rw[h3];omega
    have e2:g/1000000=m:=by rw[h3];omega
    rw[if_pos e1,e2,h2,hσ]
  .cases h1
 refine⟨x,cx',β2,rfl,hle,hA,(hr cx' βc' β2 hR2 x).1 hdr,?_⟩;rw[qZ,qF];have h1:=hI'.kK (dL (fun _ _ h F=>(h F).1) (hts cx' βc' β2 hR2 w'))
 replace h1:=Inv.le2 hle h1
 have h2:Inv cx'.w0 cx'.F0 w' (rest.map (Tok.res cx' β)++(ts''.map (Tok.res cx' β2)++fr)):=h1.perm (by
  rw[<-qF,<-qF];exact List.perm_append_comm.append_right fr)
 have h3:=h2.beta (β':=β2) fun t ht g hg=>hA g (cO hf (fun t ht=>hp.mem_iff.2 (List.mem_append_right _ ht)) t ht g hg)
 exact h3.perm (by
  rw[<-qF,<-qF];exact List.perm_append_comm.append_right fr)
theorem Gj{d:Nat}(hd:d<1000000)(hf:aA d env rs=true){op:Op}{K:SV->List Tok->Prop}(h:Ml P env rs d op K):
  ∃v rs',K v rs'/\Rp P env rs none d ⟨dst,op,ty,pos,aft,gd⟩ v rs':=by
 unfold Ml at h;split at h
 .rename_i c;obtain⟨ce,ar,tys⟩:=c;split at h
  .rename_i y hc;simp only at hc;subst hc;split at h
   .rename_i f l vs hy hvs;exact Mg (P:=P) (dst:=dst) (ty:=ty) (pos:=pos) (aft:=aft) (gd:=gd) (tys:=tys) hd hf hy hvs h
   .exact h.elim
  .exact h.elim
 .exact h.elim
def lT(P:Program)(opsA:Array Oper)(o:Oper)(env:Ev)(rsI rsO:List Tok)(ent:Option SV):Prop:=∀(cx:Cx) (β:Nat->Value) (n:Nat) (fr:List bn) (a:Act) (w:World),dF cx β n a env->Inv cx.w0 cx.F0 w (rsI.map (Tok.res cx β)++fr)->
 Gives P opsA o a w fun x w'=>∃cx' β',cx.le cx'/\(∀g,(∀d,o.dst=some d->g % 1000000≠d)->β' g=β g)/\(∀d v,o.dst=some d->ent=some v->bO cx' β' (a.put o.dst x) v x)/\Inv cx'.w0 cx'.F0 w' (rsO.map (Tok.res cx' β')++fr)
theorem Gives.imp{opsA:Array Oper}{o:Oper}{R S:Value->World->Prop}(h:Gives P opsA o a w R)(k:∀v w',R v w'->S v w'):Gives P opsA o a w S:=by
 rcases h with⟨hw,h⟩|⟨hw,h⟩
 .refine .inl ⟨hw,?_⟩;rcases h with⟨v,w',h1,h2⟩|⟨w',h1,h2⟩|⟨f,args,h1,h2⟩
  .exact .inl ⟨v,w',h1,k _ _ h2⟩
  .exact .inr (.inl ⟨w',h1,k _ _ h2⟩)
  .exact .inr (.inr ⟨f,args,h1,h2.mono fun e w' ⟨v,h3,h4⟩=>⟨v,h3,k _ _ h4⟩⟩)
 .exact .inr ⟨hw,k _ _ h⟩
theorem fA.I7{opsA:Array Oper}{o:Oper}{rsI rsO:List Tok}{ent:Option SV}(h:fA P opsA o env rsI rsO ent):lT P opsA o env rsI rsO ent:=fun cx β n fr a w E hI=>
 (h cx β n fr a w E hI).imp fun v w' ⟨β',h1,h2,h3⟩=>⟨cx,β',Cx.le.refl cx,h1,fun d v' e1 e2=>by rw[e1];exact h2 d v' e1 e2,h3⟩
theorem P5{opsA:Array Oper}{o:Oper}{d:Nat}{rs':List Tok}(hd:o.dst=some d)(hg:o.guard=none)(h:Rp P env rs none d o v rs'):lT P opsA o env rs rs' (some v):=fun cx β n fr a w E hI=>by
 have hw:Region.wanted o (yielded opsA a.tmps)=true:=by simp[Region.wanted,hg]
 have hup:∀{β':Nat->Value},lJ d β β'->∀g,(∀d,o.dst=some d->g % 1000000≠d)->β' g=β g:=fun hA g hg=>hA g (hg d hd)
 obtain⟨f,args,h1,h2⟩:=h cx β n fr a w E (fun d b e=>by cases e) hI;refine .inl ⟨hw,.inr (.inr ⟨f,args,h1,h2.mono fun e w' ⟨x,cx',β',k1,kl,k2,k3,k4⟩=>⟨x,k1,cx',β',kl,hup k2,fun d' v' _ e=> ?_,k4⟩⟩)⟩;injection e with e
 subst e;exact bO.of k3
def NV(P:Program)(env:Ev)(o:Oper)(v:SV):Prop:=∀(cx:Cx) (β:Nat->Value) (n:Nat) (fr:List bn) (a:Act) (w:World),dF cx β n a env->Inv cx.w0 cx.F0 w fr->∃x w' cx',(execOp a.eval o).run P w=.ok (.value x) w'/\cx.le cx'/\Den cx' β v x/\Inv cx'.w0 cx'.F0 w' fr
theorem Mh(hti:dx P ti=true){op:Op}{K:SV->Prop}(h:Qz ti env op K):∃v,K v/\NV P env ⟨dst,op,ty,pos,aft,gd⟩ v:=by
 unfold Qz at h;split at h
 .rename_i t m ps;split at h
  .rename_i css e s u hp hl;cases hc:(Nat.beq css.length m&&(Nat.blt 0 m&&Nat.ble (m*s) 16777216))with
   |false=>rw[hc]at h;exact h.elim
   |true=>
    rw[hc]at h;rw[qD,qD]at hc;obtain⟨xs,h1,h2,h3⟩:=zf h;refine⟨.rsl u xs,h1,fun cx β n fr a w E H=> ?_⟩;obtain⟨v,w',cx',k1,k2,k3,k4,k5⟩:=GH (P:=P) (dst:=dst) (ty:=ty) (pos:=pos) (aft:=aft) (gd:=gd) (rs:=[]) hti hl E (by simpa using H) hp (ay hc.1) (by simpa using hc.2.1) (by simpa using hc.2.2) h2 h3;exact⟨v,w',cx',k1,k2,k3,by simpa using k5⟩
  .exact h.elim
 .exact h.elim
theorem PZ{opsA:Array Oper}{o:Oper}{d:Nat}(hd:o.dst=some d)(hg:o.guard=none)(h:NV P env o v):lT P opsA o env [] [] (some v):=fun cx β n fr a w E hI=>by
 have hw:Region.wanted o (yielded opsA a.tmps)=true:=by simp[Region.wanted,hg]
 obtain⟨x,w',cx',h1,h2,h3,h4⟩:=h cx β n fr a w E (by simpa using hI);refine .inl ⟨hw,.inl ⟨x,w',h1,cx',β,h2,fun _ _=>rfl,fun d' v' _ e=> ?_,by simpa using h4⟩⟩;injection e with e
 subst e;exact bO.of h3
structure CG(P:Program)(ops:List Oper)(base:Ev)(olds:List dR)(dl:List (Nat×Nat))(ents:List dR)(labs:List aT)(anc rds:List (List Nat))(k:Nat):Prop where
 ex:∃(o:Oper) (A rd:List Nat) (env:Ev) (rsR rsC rsP:List Tok) (idC idP:List Nat) (ent:Option SV),ops[k]? =some o/\anc[k]? =some A/\rds[k]? =some rd/\
  (rd.Nodup/\F2 (At labs) rd rsR)/\(idC.Nodup/\F2 (At labs) idC rsC/\∀(ℓ:Nat) (x:aT),labs[ℓ]? =some x->(x.cons=some k↔ℓ∈idC))/\(idP.Nodup/\F2 (At labs) idP rsP/\∀(ℓ:Nat) (x:aT),labs[ℓ]? =some x->(x.prod=some k↔ℓ∈idP))/\
  (∀t s,lk env t=some s->(∃x∈ents,x.i∈A/\x.d=t/\x.v=s)\/(∃x∈olds,(x.i=k\/∃A,anc[x.i]? =some A/\k∈A)/\x.d=t/\x.v=s)\/lk base t=some s)/\lT P ops.toArray o env (rsR++rsC) (rsR++rsP) ent/\
  (∀x∈ents,x.i=k->o.dst=some x.d/\ent=some x.v/\(∀g∈SV.names x.v [],kD dl k A g)/\∀gd b y,x.v=.gd gd b y->(∃jg∈A,bY ops jg=some gd)/\o.guard≠none)/\(∀t∈rsP,∀g∈Tok.names t [],kD dl k A g)
structure oK(P:Program)(nt:Nat)(ops:List Oper)(base:Ev)(olds:List dR)(dl:List (Nat×Nat))(K:Ev->List Tok->Prop)(i m:Nat)(ents:List dR)(labs:List aT)(anc rds:List (List Nat))(ents':List dR)(labs':List aT)(rds':List (List Nat)):Prop where
 good:dG.good ⟨rds',labs'.map (fun x=>⟨x.prod,x.cons⟩),anc⟩ ops.toArray nt=true
 fin:∃env,K env ((labs'.filter (fun x=>x.cons.isNone)).map (·.tok))/\∀t s,lk env t=some s->(∃x∈ents',x.d=t/\x.v=s)\/lk base t=some s
 e1:∀x∈ents,x∈ents'
 e2:∀x∈ents',x∈ents\/(i<=x.i/\x.i<i+m)
 gr:Grow i labs labs'
 r1:∀(k:Nat) (A:List Nat),rds[k]? =some A->rds'[k]? =some A
 ops:∀j,j<m->CG P ops base olds dl ents' labs' anc rds' (i+j)
theorem Ee(hti:dx P ti=true)(hn0:n<=10000){ops:List Oper}{dl:List (Nat×Nat)}{base:Ev}{olds:List dR}{anc:List (List Nat)}{K:Ev->List Tok->Prop}:∀(rest:List Oper) (i:Nat) {ents:List dR} {labs:List aT} {rds:List (List Nat)},
  iL P ti n ops dl base olds anc i rest ents labs rds K->rds.length=i->(∀j,ops[i+j]? =rest[j]?)->En i labs->(∀x∈ents,x.i<i)->∃ents' labs' rds',oK P n ops base olds dl K i rest.length ents labs anc rds ents' labs' rds'
 |[],i,ents,labs,rds,h,hr,ho,hI,hE=>by
  rw[Iy]at h;obtain⟨env,h1,h2⟩:=yx h.2;exact⟨ents,labs,rds,h.1,⟨env,qb h1,h2⟩,fun x h=>h,fun x h=>.inl h,Grow.refl _ _,fun k A h=>h,fun j hj=>by simp at hj⟩
 |o::rest,i,ents,labs,rds,h,hr,ho,hI,hE=>by
  rw[EX]at h;split at h
  .exact h.elim
  rename_i A hA0;rw[mh]at hA0;obtain⟨base',h,hold⟩:=uo h;obtain⟨env,h,henv0⟩:=uf h
  have henv:∀t s,lk env t=some s->(∃x∈ents,x.i∈A/\x.d=t/\x.v=s)\/(∃x∈olds,(x.i=i\/∃A,anc[x.i]? =some A/\i∈A)/\x.d=t/\x.v=s)\/lk base t=some s:=fun t s hl=>by
   rcases henv0 t s hl with h1|h1
   .exact .inl h1
   .exact .inr (hold t s h1)
  have ho0:ops[i]? =some o:=by simpa using ho 0
  have hoS:∀j,ops[i+1+j]? =rest[j]? :=fun j=>by
   have:=ho (j+1);rw[show i+(j+1)=i+1+j by omega]at this;simpa using this
  have step:∀{ents2:List dR} {labs2:List aT} {rd:List Nat} {rsR rsC rsP:List Tok} {idC idP:List Nat} {ent:Option SV},
    iL P ti n ops dl base olds anc (i+1) rest ents2 labs2 (rds++[rd]) K->En (i+1) labs2->Grow i labs labs2->(∀x∈ents,x∈ents2)->(∀x∈ents2,x∈ents\/(x.i=i/\o.dst=some x.d/\ent=some x.v/\(∀g∈SV.names x.v [],kD dl i A g)/\∀gd b y,x.v=.gd gd b y->(∃jg∈A,bY ops jg=some gd)/\o.guard≠none))->
    rd.Nodup->F2 (At labs2) rd rsR->idC.Nodup->F2 (At labs2) idC rsC->(∀(ℓ:Nat) (x:aT),labs2[ℓ]? =some x->(x.cons=some i↔ℓ∈idC))->idP.Nodup->F2 (At labs2) idP rsP->(∀(ℓ:Nat) (x:aT),labs2[ℓ]? =some x->(x.prod=some i↔ℓ∈idP))->
    lT P ops.toArray o env (rsR++rsC) (rsR++rsP) ent->(∀t∈rsP,∀g∈Tok.names t [],kD dl i A g)->∃ents' labs' rds',oK P n ops base olds dl K i (o::rest).length ents labs anc rds ents' labs' rds':=by
   intro ents2 labs2 rd rsR rsC rsP idC idP ent h hI2 hG he1 he2 hrd hfR hC hfC hCi hP hfP hPi hsem hcls
   obtain⟨ents',labs',rds',hD⟩:=Ee hti hn0 rest (i+1) h (by simp[hr]) hoS hI2 (fun x hx=>by
    rcases he2 x hx with h1|h1
    .have:=hE x h1;omega
    .omega)
   have hR':rds'[i]? =some rd:=hD.r1 i rd (by rw[qL (by omega)];simp[hr]);refine⟨ents',labs',rds',hD.good,hD.fin,fun x hx=>hD.e1 x (he1 x hx),fun x hx=> ?_,hG.trans hD.gr,fun k B hk=>hD.r1 k B ?_,fun j hj=> ?_⟩
   .rcases hD.e2 x hx with h1|h1
    .rcases he2 x h1 with h2|h2
     .exact .inl h2
     .exact .inr (by simp only[qI];omega)
    .exact .inr (by simp only[qI];omega)
   .rw[qM (qE.1 hk).1];exact hk
   .cases j with
    |succ j=>
     have:=hD.ops j (by simpa using hj)
     rwa[show i+1+j=i+(j+1) by omega]at this
    |zero=>
     rw[Nat.add_zero];refine⟨o,A,rd,env,rsR,rsC,rsP,idC,idP,ent,ho0,hA0,hR',⟨hrd,hfR.mono fun _ _=>At.grow hD.gr⟩,⟨hC,hfC.mono fun _ _=>At.grow hD.gr,fun ℓ x' hx'=> ?_⟩,⟨hP,hfP.mono fun _ _=>At.grow hD.gr,fun ℓ x' hx'=> ?_⟩,fun t s hl=> ?_,hsem,fun x hx hxi=> ?_,hcls⟩
     .rcases Nat.lt_or_ge ℓ labs2.length with h1|h1
      .have h2:=qB h1;obtain⟨y,k1,_,_,k4,k5⟩:=hD.gr.old ℓ _ h2;rw[hx']at k1;injection k1 with k1
       subst k1;rw[<-hCi ℓ _ h2];cases hc:labs2[ℓ].cons with
       |none=>
        rcases k5 hc with k6|⟨c,k6,k7⟩
        .rw[k6]
        .rw[k7];constructor
         .intro e;injection e with e;omega
         .intro e;cases e
       |some c=>rw[k4 c hc]
      .have h2:=hD.gr.new ℓ x' hx' h1;constructor
       .intro e;rcases h2.2 with h3|⟨c,h3,h4⟩
        .rw[h3]at e;cases e
        .rw[h4]at e;injection e with e;omega
       .intro hm;obtain⟨t,⟨y,hy,_⟩⟩:∃t,At labs2 ℓ t:=hfC.nU hm;have:=(qE.1 hy).1;omega
     .rcases Nat.lt_or_ge ℓ labs2.length with h1|h1
      .have h2:=qB h1;obtain⟨y,k1,_,k3,_⟩:=hD.gr.old ℓ _ h2;rw[hx']at k1;injection k1 with k1
       subst k1;rw[<-hPi ℓ _ h2,k3]
      .obtain⟨⟨p,h2,h3⟩,_⟩:=hD.gr.new ℓ x' hx' h1;constructor
       .intro e;rw[h3]at e;injection e with e;omega
       .intro hm;obtain⟨t,⟨y,hy,_⟩⟩:∃t,At labs2 ℓ t:=hfP.nU hm;have:=(qE.1 hy).1;omega
     .rcases henv t s hl with⟨x,h1,h2⟩|h1
      .exact .inl ⟨x,hD.e1 x (he1 x h1),h2⟩
      .exact .inr h1
     .rcases hD.e2 x hx with h1|h1
      .rcases he2 x h1 with h2|h2
       .have:=hE x h2;omega
       .exact h2.2
      .omega
  have noP:∀(ℓ:Nat) (x:aT),labs[ℓ]? =some x->(x.prod=some i↔ℓ∈([]:List Nat)):=fun ℓ x hx=>⟨fun e=>by have:=(hI ℓ x hx).1 i e;omega,fun hm=>by simp at hm⟩
  have noC:∀(ℓ:Nat) (x:aT),labs[ℓ]? =some x->(x.cons=some i↔ℓ∈([]:List Nat)):=fun ℓ x hx=>⟨fun e=>by have:=(hI ℓ x hx).2 i e;omega,fun hm=>by simp at hm⟩
  have hI1:En (i+1) labs:=fun ℓ x hx=>⟨fun p hp=>by have:=(hI ℓ x hx).1 p hp;omega,fun c hc=>by have:=(hI ℓ x hx).2 c hc;omega⟩
  have pureStep:∀{d:Nat} {v' v:SV} {rd:List Nat} {rs:List Tok},o.dst=some d->iL P ti n ops dl base olds anc (i+1) rest (⟨i,d,v'⟩::ents) labs (rds++[rd]) K->aR dl i A (v.names [])=true->(∀gd b y,v'=.gd gd b y->(∃jg∈A,bY ops jg=some gd)/\o.guard≠none)->(v'.names []=v.names [])->rd.Nodup->F2 (At labs) rd rs->lT P ops.toArray o env rs rs (some v')->∃ents' labs' rds',oK P n ops base olds dl K i (o::rest).length ents labs anc rds ents' labs' rds':=by
   intro d v' v rd rs hd h hc hgd hnm hrd hf hsem;refine step (idC:=[]) (idP:=[]) (rsC:=[]) (rsP:=[]) (ent:=some v') h hI1 (Grow.refl _ _) (fun x hx=>by simp[hx]) (fun x hx=> ?_) hrd hf List.nodup_nil .nil noC List.nodup_nil .nil noP (by simpa using hsem) (fun t ht=>by simp at ht);rcases List.mem_cons.1 hx with rfl|hx
   .exact .inr ⟨rfl,hd,rfl,fun g hg=>dU hc g (by simpa[hnm]using hg),hgd⟩
   .exact .inl hx
  have takeStepR:∀{ns:List Nat} {rd:List Nat} {rsR:List Tok} {ent:Option SV} {ents2:List dR} {rs':List Tok} {l1:List aT} {us:List Nat} {rs:List Tok},q9 i labs l1 us rs->rd.Nodup->F2 (At labs) rd rsR->(∀x∈ents,x∈ents2)->(∀x∈ents2,x∈ents\/(x.i=i/\o.dst=some x.d/\ent=some x.v/\(∀g∈SV.names x.v [],kD dl i A g)/\∀gd b y,x.v=.gd gd b y->(∃jg∈A,bY ops jg=some gd)/\o.guard≠none))->(∀t∈rs',∀g∈Tok.names t [],kD dl i A g)->
    iL P ti n ops dl base olds anc (i+1) rest ents2 (l1++rs'.map fun t=>⟨t,some i,none⟩) (rds++[rd]) K->lT P ops.toArray o env (rsR++rs) (rsR++rs') ent->∃ents' labs' rds',oK P n ops base olds dl K i (o::rest).length ents labs anc rds ents' labs' rds':=by
   intro ns rd rsR ent ents2 rs' l1 us rs hT hrdN hrdF he1 he2 hcl h hsem;have hlen:=hT.len
   have hat:∀(ℓ:Nat) (x:aT),(l1++rs'.map fun t=>(⟨t,some i,none⟩:aT))[ℓ]? =some x->(∃y,labs[ℓ]? =some y/\l1[ℓ]? =some x/\x.tok=y.tok/\x.prod=y.prod/\(∀c,y.cons=some c->x.cons=some c/\ℓ∉us)/\(y.cons=none->(ℓ∈us/\x.cons=some i)\/(ℓ∉us/\x.cons=none)))\/(labs.length<=ℓ/\x.prod=some i/\x.cons=none):=fun ℓ x hx=>by
    rcases Nat.lt_or_ge ℓ l1.length with h1|h1
    .rw[qM h1]at hx;have h2:=qB (show ℓ<labs.length by omega);obtain⟨x',k1,k2,k3,k4,k5⟩:=hT.old ℓ _ h2;rw[hx]at k1;injection k1 with k1
     subst k1;exact .inl ⟨_,h2,hx,k2,k3,k4,k5⟩
    .rw[qL h1,qY]at hx;cases hq:rs'[ℓ-l1.length]? with
     |none=>rw[hq]at hx;cases hx
     |some t=>rw[hq]at hx;injection hx with hx;subst hx;exact .inr ⟨by omega,rfl,rfl⟩
   have f2new:∀(ts:List Tok) (pre:List aT),F2 (At (pre++ts.map fun t=>(⟨t,some i,none⟩:aT))) ((List.range ts.length).map (pre.length+ ·)) ts:=by
    intro ts
    induction ts with
    |nil=>intro pre;exact .nil
    |cons t ts ih=>
     intro pre;rw[qI,List.range_succ_eq_map];show F2 _ ((pre.length+0)::List.map (fun x=>pre.length+x) (List.map Nat.succ (List.range ts.length))) (t::ts);rw[List.map_map];refine .cons ⟨⟨t,some i,none⟩,by rw[qL (by omega)];simp,rfl⟩ ?_;have:=ih (pre++[⟨t,some i,none⟩]);rw[qF]at this;simp only[qA,qJ]at this;have e:(List.range ts.length).map ((pre.length+ ·)∘Nat.succ)=(List.range ts.length).map (pre.length+1+ ·):=List.map_congr_left fun j _=>by simp only[Function.comp];omega
     rw[e];exact this
   refine step (idC:=us) (idP:=(List.range rs'.length).map (l1.length+ ·)) (rsR:=rsR) (rsC:=rs) (rsP:=rs') (ent:=ent) h (fun ℓ x hx=> ?_) ⟨fun ℓ y hy=> ?_,fun ℓ x hx hl=> ?_⟩ he1 he2 hrdN (hrdF.mono fun ℓ t ⟨x,q1,q2⟩=>by obtain⟨x',k1,k2,_⟩:=hT.old ℓ x q1;exact⟨x',by rw[qM (qE.1 k1).1];exact k1,k2.trans q2⟩) hT.nd (hT.f2.mono fun ℓ t ⟨x,q1,q2⟩=>⟨x,by rw[qM (qE.1 q1).1];exact q1,q2⟩) (fun ℓ x hx=> ?_) (List.Pairwise.map _ (fun a b (h:a≠b)=>by omega) List.nodup_range) (f2new rs' l1) (fun ℓ x hx=> ?_) (by simpa using hsem) hcl
   .rcases hat ℓ x hx with⟨y,q1,q2,q3,q4,q5,q6⟩|⟨q1,q2,q3⟩
    .refine⟨fun p hp=>by have:=(hI ℓ y q1).1 p (q4▸hp);omega,fun c hc=> ?_⟩;cases hyc:y.cons with
     |some c'=>
      rw[(q5 c' hyc).1]at hc;injection hc with hc
      have:=(hI ℓ y q1).2 c' hyc;omega
     |none=>
      rcases q6 hyc with⟨_,q7⟩|⟨_,q7⟩
      .rw[q7]at hc;injection hc with hc;omega
      .rw[q7]at hc;cases hc
    .exact⟨fun p hp=>by rw[q2]at hp;injection hp with hp;omega,fun c hc=>by rw[q3]at hc;cases hc⟩
   .obtain⟨x',k1,k2,k3,k4,k5⟩:=hT.old ℓ y hy;refine⟨x',by rw[qM (qE.1 k1).1];exact k1,k2,k3,fun c hc=>(k4 c hc).1,fun hc=> ?_⟩;rcases k5 hc with⟨_,k6⟩|⟨_,k6⟩
    .exact .inr ⟨i,Nat.le_refl _,k6⟩
    .exact .inl k6
   .rcases hat ℓ x hx with⟨y,q1,_⟩|⟨q1,q2,q3⟩
    .have:=(qE.1 q1).1;omega
    .exact⟨⟨i,Nat.le_refl _,q2⟩,.inl q3⟩
   .rcases hat ℓ x hx with⟨y,q1,q2,q3,q4,q5,q6⟩|⟨q1,q2,q3⟩
    .cases hyc:y.cons with
     |some c'=>
      obtain⟨q7,q8⟩:=q5 c' hyc;refine⟨fun e=> ?_,fun hm=>absurd hm q8⟩;rw[q7]at e;injection e with e
      have:=(hI ℓ y q1).2 c' hyc;omega
     |none=>
      rcases q6 hyc with⟨q7,q8⟩|⟨q7,q8⟩
      .exact⟨fun _=>q7,fun _=>q8⟩
      .exact⟨fun e=>(by rw[q8]at e;cases e),fun hm=>absurd hm q7⟩
    .refine⟨fun e=>(by rw[q3]at e;cases e),fun hm=> ?_⟩;obtain⟨t,y,hy,_⟩:∃t,∃y,l1[ℓ]? =some y/\y.tok=t:=hT.f2.nU hm;have:=(qE.1 hy).1;omega
   .have hr:ℓ∈(List.range rs'.length).map (l1.length+ ·)↔l1.length<=ℓ/\ℓ<l1.length+rs'.length:=by
     simp only[List.mem_map,List.mem_range];constructor
     .rintro⟨j,h1,rfl⟩;omega
     .rintro⟨h1,h2⟩;exact⟨ℓ-l1.length,by omega,by omega⟩
    rw[hr];have hlt:=(qE.1 hx).1;simp only[qA,qV]at hlt;rcases hat ℓ x hx with⟨y,q1,q2,q3,q4,q5,q6⟩|⟨q1,q2,q3⟩
    .refine⟨fun e=> ?_,fun hm=> ?_⟩
     .have:=(hI ℓ y q1).1 i (q4▸e);omega
     .have:=(qE.1 q1).1;omega
    .exact⟨fun _=>⟨by omega,by omega⟩,fun _=>q2⟩
  have takeStep:∀{ns:List Nat} {ent:Option SV} {ents2:List dR} {rs':List Tok} {l1:List aT} {us:List Nat} {rs:List Tok},q9 i labs l1 us rs->(∀x∈ents,x∈ents2)->(∀x∈ents2,x∈ents\/(x.i=i/\o.dst=some x.d/\ent=some x.v/\(∀g∈SV.names x.v [],kD dl i A g)/\∀gd b y,x.v=.gd gd b y->(∃jg∈A,bY ops jg=some gd)/\o.guard≠none))->(∀t∈rs',∀g∈Tok.names t [],kD dl i A g)->
    iL P ti n ops dl base olds anc (i+1) rest ents2 (l1++rs'.map fun t=>⟨t,some i,none⟩) (rds++[[]]) K->lT P ops.toArray o env rs rs' ent->∃ents' labs' rds',oK P n ops base olds dl K i (o::rest).length ents labs anc rds ents' labs' rds':=fun {ns} {ent} {ents2} {rs'} {l1} {us} {rs} hT he1 he2 hcl h hsem=>takeStepR (ns:=ns) (rsR:=[]) hT List.nodup_nil .nil he1 he2 hcl h hsem
  have split_fresh:∀{d:Nat} {env:Ev} {rs:List Tok} {p:Prop},(bif aA d env rs then p else False)->aA d env rs=true/\p:=fun {d env rs p} h=>by
   cases hb:aA d env rs with
   |true=>rw[hb]at h;exact⟨rfl,h⟩
   |false=>rw[hb]at h;exact h.elim
  have split_b:∀{b:Bool} {p:Prop},(bif b then p else False)->b=true/\p:=fun {b p} h=>by
   cases b with
   |true=>exact⟨rfl,h⟩
   |false=>exact h.elim
  have hfreeG:iP ops env A o.guard=.free->o.guard=none:=fun hG=>by
   unfold iP at hG;split at hG
   .assumption
   .rename_i j b hj;cases hm:mem j A with
    |true=>
     rw[hm]at hG;simp only[qG]at hG;unfold dZ at hG;simp only at hG;split at hG
     .split at hG<;>cases hG
     .cases hG
    |false=>rw[hm]at hG;cases hG
  have hatG:∀{gd:Nat} {gb gc:Bool},iP ops env A o.guard=.at gd gb gc->∃j,o.guard=some (j,gb)/\bY ops j=some gd/\gF env 8 gd gb=some gc/\j∈A:=fun {gd gb gc} hG=>by
   unfold iP at hG;split at hG
   .cases hG
   .rename_i j b hj;cases hm:mem j A with
    |true=>
     rw[hm]at hG;simp only[qG]at hG;unfold dZ at hG;simp only at hG;split at hG
     .rename_i d' hd';split at hG
      .rename_i c hc;injection hG with e1 e2 e3
       subst e1 e2 e3;exact⟨j,hj,hd',hc,mem_iff.1 hm⟩
      .cases hG
     .cases hG
    |false=>rw[hm]at hG;cases hG
  have f2l:∀{rd:List Nat} {rs:List Tok},F2 (fun ℓ t=>∃x,labs[ℓ-0]? =some x/\x.tok=t) rd rs->F2 (At labs) rd rs:=fun h=>h.mono fun ℓ t ⟨x,q1,q2⟩=>⟨x,by simpa using q1,q2⟩
  have doSt:∀{ns:List Nat} {d:Nat},o.dst=some d->o.guard=none->d<1000000->(bS i ns labs fun labs1 rs=>bif aA d env rs then gJ P ti env rs none d o.op fun v rs'=>(bif bG v&&aR dl i A (v.names (aH rs' []))then bU i labs1 rs' fun labs2=>aP rds [] fun rds'=>iL P ti n ops dl base olds anc (i+1) rest (⟨i,d,v⟩::ents) labs2 rds' K else False)else False)->∃ents' labs' rds',oK P n ops base olds dl K i (o::rest).length ents labs anc rds ents' labs' rds':=by
   intro ns d hd hg hdM h;obtain⟨l1,us,rs,h,hT⟩:=fK h;obtain⟨hf,h⟩:=split_fresh h;obtain⟨v,rs',h,hS⟩:=jv (dst:=o.dst) (ty:=o.type) (pos:=o.pos) (aft:=o.after) (gd:=o.guard) hti hdM hf h;obtain⟨hc,h⟩:=split_b h;rw[qD]at hc;obtain⟨hn,hc⟩:=hc;have h:=bB (fI h);have hcl:=dU hc;refine takeStep (ns:=ns) (ent:=some v) hT (fun x hx=>by simp[hx]) (fun x hx=> ?_) (fun t ht g hg=>hcl g (aX.2 (.inr (bF.2 (.inl ⟨t,ht,hg⟩))))) h (fA.I7 (Cn hd hg hS));rcases List.mem_cons.1 hx with rfl|hx
   .exact .inr ⟨rfl,hd,rfl,fun g hg=>hcl g (aX.2 (.inl hg)),fun gd b y e=>by subst e;simp[bG]at hn⟩
   .exact .inl hx
  have doGw:∀{ns:List Nat} {d:Nat},o.dst=some d->o.guard=none->d<1000000->(bS i ns labs fun labs1 rs=>bif aA d env rs then Ml P env rs d o.op fun v rs'=>(bif bG v&&aR dl i A (v.names (aH rs' []))then bU i labs1 rs' fun labs2=>aP rds [] fun rds'=>iL P ti n ops dl base olds anc (i+1) rest (⟨i,d,v⟩::ents) labs2 rds' K else False)else False)->∃ents' labs' rds',oK P n ops base olds dl K i (o::rest).length ents labs anc rds ents' labs' rds':=by
   intro ns d hd hg hdM h;obtain⟨l1,us,rs,h,hT⟩:=fK h;obtain⟨hf,h⟩:=split_fresh h;obtain⟨v,rs',h,hS⟩:=Gj (dst:=o.dst) (ty:=o.type) (pos:=o.pos) (aft:=o.after) (gd:=o.guard) hdM hf h;obtain⟨hc,h⟩:=split_b h;rw[qD]at hc;obtain⟨hn,hc⟩:=hc;have h:=bB (fI h);have hcl:=dU hc;refine takeStep (ns:=ns) (ent:=some v) hT (fun x hx=>by simp[hx]) (fun x hx=> ?_) (fun t ht g hg=>hcl g (aX.2 (.inr (bF.2 (.inl ⟨t,ht,hg⟩))))) h (P5 hd hg hS);rcases List.mem_cons.1 hx with rfl|hx
   .exact .inr ⟨rfl,hd,rfl,fun g hg=>hcl g (aX.2 (.inl hg)),fun gd b y e=>by subst e;simp[bG]at hn⟩
   .exact .inl hx
  have doStG:∀{ns:List Nat} {d j gd:Nat} {gb:Bool},o.dst=some d->o.guard=some (j,gb)->bY ops j=some gd->gF env 8 gd gb=some true->d<1000000->(bS i ns labs fun labs1 rs=>bif aA d env rs then gJ P ti env rs (some (gd,gb)) d o.op fun v rs'=>(bif bG v&&aR dl i A (v.names (aH rs' []))then bU i labs1 rs' fun labs2=>aP rds [] fun rds'=>iL P ti n ops dl base olds anc (i+1) rest (⟨i,d,v⟩::ents) labs2 rds' K else False)else False)->∃ents' labs' rds',oK P n ops base olds dl K i (o::rest).length ents labs anc rds ents' labs' rds':=by
   intro ns d j gd gb hd hg hj hc0 hdM h;obtain⟨l1,us,rs,h,hT⟩:=fK h;obtain⟨hf,h⟩:=split_fresh h;obtain⟨v,rs',h,hS⟩:=jv (dst:=o.dst) (ty:=o.type) (pos:=o.pos) (aft:=o.after) (gd:=o.guard) hti hdM hf h;obtain⟨hc,h⟩:=split_b h;rw[qD]at hc;obtain⟨hn,hc⟩:=hc;have h:=bB (fI h);have hcl:=dU hc;refine takeStep (ns:=ns) (ent:=some v) hT (fun x hx=>by simp[hx]) (fun x hx=> ?_) (fun t ht g hg=>hcl g (aX.2 (.inr (bF.2 (.inl ⟨t,ht,hg⟩))))) h (fA.I7 (K8 hd hg hj hc0 hS));rcases List.mem_cons.1 hx with rfl|hx
   .exact .inr ⟨rfl,hd,rfl,fun g hg=>hcl g (aX.2 (.inl hg)),fun gd b y e=>by subst e;simp[bG]at hn⟩
   .exact .inl hx
  have doUn:∀{d j gd:Nat} {gb:Bool},o.dst=some d->o.guard=some (j,gb)->bY ops j=some gd->gF env 8 gd gb=some false->(aP rds [] fun rds'=>iL P ti n ops dl base olds anc (i+1) rest (⟨i,d,.un⟩::ents) labs rds' K)->∃ents' labs' rds',oK P n ops base olds dl K i (o::rest).length ents labs anc rds ents' labs' rds':=by
   intro d j gd gb hd hg hj hc0 h;exact pureStep (v:=.un) hd (bB h) rfl (fun gd b y e=>by cases e) rfl List.nodup_nil .nil (fA.I7 (P6 hg hj hc0))
  split at h
  .exact h.elim
  .rename_i hG hd;obtain⟨l1,us,rs,h,hT⟩:=fK h;obtain⟨rs',h,hW⟩:=kr (P:=P) (dst:=o.dst) (ty:=o.type) (pos:=o.pos) (aft:=o.after) (gd:=o.guard) hti h;obtain⟨hc,h⟩:=split_b h;have h:=bB (fI h);exact takeStep (ns:=[]) (ent:=none) hT (fun x hx=>hx) (fun x hx=>.inl hx) (fun t ht g hg=>dU hc g (bF.2 (.inl ⟨t,ht,hg⟩))) h (fA.I7 (P7 hd (hfreeG hG) hW))
  .exact h.elim
  .rename_i d hG hd;have hgn:=hfreeG hG;cases hbl:Nat.blt d n with
   |false=>rw[hbl]at h;exact h.elim
   |true=>
   rw[hbl]at h;simp only[Bool.not_true,qH]at h;have hdM:d<1000000:=qW (show d<n by simpa using hbl) (Nat.le_trans hn0 (by decide));split at h
   .obtain⟨rd,rs,h,k1,_,k2⟩:=jq h;obtain⟨v,h,hO⟩:=kR hti h;obtain⟨hc,h⟩:=split_b h;rw[qD]at hc;exact pureStep hd (bB h) hc.2 (fun gd b y e=>by have:=hc.1;subst e;simp[bG]at this) rfl k1 (f2l k2) (fA.I7 (Kj hd hgn (hO fun c e=>by cases e)))
   .cases hlit:isLit env o.op with
    |false=>rw[hlit]at h;exact doSt hd hgn hdM h
    |true=>
     rw[hlit]at h;simp only[qG]at h;obtain⟨v,h,hO⟩:=Mh (dst:=o.dst) (ty:=o.type) (pos:=o.pos) (aft:=o.after) (gd:=o.guard) hti h;obtain⟨hc,h⟩:=split_b h;rw[qD]at hc;exact pureStep (v:=v) (rs:=[]) hd (bB h) hc.2 (fun gd b y e=>by have h9:=hc.1;rw[e]at h9;cases h9) rfl List.nodup_nil .nil (PZ hd hgn hO)
   .rcases h with h|h|h
    .obtain⟨ns0,h⟩:=fU h;cases ns0 with
     |nil=>
      obtain⟨v,h,hO⟩:=kR hti h;obtain⟨hc,h⟩:=split_b h;rw[qD]at hc;exact pureStep hd (bB h) hc.2 (fun gd b y e=>by have:=hc.1;subst e;simp[bG]at this) rfl List.nodup_nil .nil (fA.I7 (Kj hd hgn (hO fun c e=>by cases e)))
     |cons g0 l0=>
      obtain⟨ns1,h⟩:=gH h;obtain⟨rd,rs,h,k1,_,k2⟩:=jq h;obtain⟨hf,h⟩:=split_fresh h;obtain⟨v,rs',h,hS⟩:=jv (dst:=o.dst) (ty:=o.type) (pos:=o.pos) (aft:=o.after) (gd:=o.guard) hti hdM hf h;obtain⟨new,he,h⟩:=h;rw[he]at hS;obtain⟨hc,h⟩:=split_b h;rw[qD]at hc;obtain⟨hn,hc⟩:=hc;have h:=bB (fI h);have hcl:=dU hc;refine takeStepR (ns:=[]) (ent:=some v) (l1:=labs) (us:=[]) (rs:=[]) ⟨rfl,List.nodup_nil,.nil,fun ℓ x hx=>⟨x,hx,rfl,rfl,fun c hc=>⟨hc,by simp⟩,fun hc=>.inr ⟨by simp,hc⟩⟩⟩ k1 (f2l k2) (fun x hx=>by simp[hx]) (fun x hx=> ?_) (fun t ht g hg=>hcl g (aX.2 (.inr (bF.2 (.inl ⟨t,ht,hg⟩))))) h (by rw[qS];exact fA.I7 (Cn hd hgn hS))
      rcases List.mem_cons.1 hx with rfl|hx
      .exact .inr ⟨rfl,hd,rfl,fun g hg=>hcl g (aX.2 (.inl hg)),fun gd b y e=>by subst e;simp[bG]at hn⟩
      .exact .inl hx
    .obtain⟨ns0,h⟩:=fU h;obtain⟨ns1,h⟩:=gH h;exact doSt hd hgn hdM h
    .obtain⟨ns0,h⟩:=fU h;obtain⟨ns1,h⟩:=gH h;exact doGw hd hgn hdM h
  .rename_i gd gb gc d hG hd;obtain⟨j,hj1,hj2,hj3,hjA⟩:=hatG hG;cases hne:(Nat.beq gd d|| !Nat.blt d n)with
   |true=>rw[hne]at h;exact h.elim
   |false=>
    rw[hne]at h;rw[Bool.or_eq_false_iff]at hne;obtain⟨hne,hbl⟩:=hne;have hne':gd≠d:=fun e=>by subst e;simp at hne
    have hdM:d<1000000:=qW (show d<n by simpa using hbl) (Nat.le_trans hn0 (by decide));simp only[qH]at h;split at h
    .cases gc with
     |true=>exact doStG hd hj1 hj2 hj3 hdM (h.1 rfl)
     |false=>exact doUn hd hj1 hj2 hj3 (h.2 rfl)
    .obtain⟨rd,rs,h,k1,_,k2⟩:=jq h;obtain⟨v,h,hO⟩:=kR hti h;obtain⟨hc,h⟩:=split_b h;rw[qD]at hc;exact pureStep hd (bB h) hc.2 (fun gd' b y e=>by injection e with e1 e2;subst e1;exact⟨⟨j,hjA,hj2⟩,by rw[hj1];simp⟩) (by simp[SV.names]) k1 (f2l k2) (fA.I7 (Ki hd hj1 hj2 hj3 hne' hO))
    .rcases h with h|h
     .obtain⟨v,h,hO⟩:=kR hti h;obtain⟨hc,h⟩:=split_b h;rw[qD]at hc;exact pureStep hd (bB h) hc.2 (fun gd' b y e=>by injection e with e1 e2;subst e1;exact⟨⟨j,hjA,hj2⟩,by rw[hj1];simp⟩) (by simp[SV.names]) List.nodup_nil .nil (fA.I7 (Ki hd hj1 hj2 hj3 hne' hO))
     .cases gc with
      |true=>
       have h:=h.1 rfl;obtain⟨ns0,h⟩:=fU h;obtain⟨ns1,h⟩:=gH h;exact doStG hd hj1 hj2 hj3 hdM h
      |false=>
       obtain⟨v,h⟩:=h.2 rfl;obtain⟨hc,h⟩:=split_b h;rw[qD]at hc;exact pureStep hd (bB h) hc.2 (fun gd' b y e=>by injection e with e1 e2;subst e1;exact⟨⟨j,hjA,hj2⟩,by rw[hj1];simp⟩) (by simp[SV.names]) List.nodup_nil .nil (fA.I7 (PY v hd hj1 hj2 hne' hj3))
 termination_by rest=>rest.length
def sP(labs:List aT)(ℓ:Nat)(r:Cx×(Nat->Value)):bn:=match labs[ℓ]? with|some x=>Tok.res r.1 r.2 x.tok|none=>bn.emp
theorem IC(hti:dx P ti=true)(hn0:n<=10000)(hm:P.follows .mixedOrders=true){ops:List Oper}{K:Ev->List Tok->Prop}{id:Nat}{Q:Exit->Act->World->Prop}(h:Ef P ti n ops env rs K)(hh:HH cx n fr β a w env rs)(hg:NG env [])
  (hQ:∀cx' env' rs' β' a' w',cx.le cx'->K env' rs'->HH cx' n fr β' a' w' env' rs'->(fO ops=false->NG env' [])->kC (dz ops []) β β'->mQ (dz ops []) a a'->Q .normal a' w'):(Code.region id ops.toArray true).wp P Q a w:=by
 unfold Ef at h;obtain⟨base,olds,h,hbase,holds⟩:=lV [] h;obtain⟨anc,h⟩:=uL h;have h:=r9 h;cases hcn:uS (jC ops 0) (gL base (iI olds (iG (rs.map fun t=>(⟨t,none,none⟩:aT)) [])))with
 |false=>rw[hcn]at h;exact h.elim
 |true=>
 rw[hcn]at h;simp only[qG]at h;have hcn:=uT hcn
 obtain⟨ents,labs,rds,hD⟩:=Ee hti hn0 ops 0 h rfl (fun j=>by simp) (fun ℓ x hx=>by
  rw[qY]at hx;cases hq:rs[ℓ]? with
  |none=>rw[hq]at hx;cases hx
  |some t=>rw[hq]at hx;injection hx with hx;subst hx;exact⟨fun p hp=>(by cases hp),fun c hc=>(by cases hc)⟩) (fun x hx=>by simp at hx)
 have hgood:=hD.good;have hlen:(dG.mk rds (labs.map (fun x=>⟨x.prod,x.cons⟩)) anc).labs.length=labs.length:=by simp
 have hlab:∀(ℓ:Nat),(labs.map (fun x=>(⟨x.prod,x.cons⟩:Fe)))[ℓ]? =(labs[ℓ]?).map (fun x=>⟨x.prod,x.cons⟩):=fun ℓ=>by rw[qY]
 have hfact:∀k,k<ops.length->CG P ops base olds (jC ops 0) ents labs anc rds k:=fun k hk=>by
  have:=hD.ops k hk
  rwa[Nat.zero_add]at this
 have hdist:∀(i:Nat) (o:Oper) (d:Nat),ops[i]? =some o->o.dst=some d->d<n/\∀(j:Nat) (oj:Oper),ops[j]? =some oj->oj.dst=some d->j=i:=fun i o d ho hd=>by
  obtain⟨A,s,_,_,hgs⟩:=iB hgood (i:=i) (o:=o) (by simpa using ho);unfold iC at hgs;rw[hd]at hgs;simp only[qD,List.all_eq_true]at hgs;refine⟨by simpa using hgs.2.1,fun j oj hoj hdj=> ?_⟩;have hj:=(qE.1 hoj).1;have h3:=hgs.2.2 j (by simpa using hj);rw[Bool.or_eq_true,beq_iff_eq]at h3;rcases h3 with h3|h3
  .exact h3
  .simp[hoj,hdj]at h3
 have hcls:∀{i p:Nat} {o:Oper} {d:Nat} {A:List Nat} {g:Nat},ops[i]? =some o->o.dst=some d->kD (jC ops 0) p A g->g % 1000000=d->i=p\/i∈A:=fun {i p o d A g} ho hd hc hgd=>by
  obtain⟨q,hq⟩:=iq (k:=0) ho hd;obtain⟨o',_,h2,h3⟩:=kI hq;rw[Nat.sub_zero]at h2;have hqi:=(hdist i o d ho hd).2 q o' h2 h3;subst hqi;exact hc q (by rw[hgd];exact hq)
 have hno:∀{i:Nat} {o:Oper} {d g:Nat},ops[i]? =some o->o.dst=some d->lk (jC ops 0) (g % 1000000)=none->g % 1000000≠d:=fun {i o d g} ho hd hl e=>by
  obtain⟨q,hq⟩:=iq (k:=0) ho hd;rw[e,hq]at hl;cases hl
 refine Bo (ρ:=Cx×(Nat->Value)) (fr:=fr) (n:=n) (w0:=fun r=>r.1.w0) (F0:=fun r=>r.1.F0) (K:=fun j r a'=>∀x∈ents,x.i=j->∃y,a'.tmps[x.d]? =some y/\bO r.1 r.2 a' x.v y)
  (C:=fun j r a'=>∀x∈olds,x.i=j->∃y,a'.tmps[x.d]? =some y/\Den r.1 r.2 x.v y) (B:=fun r a'=>(∀t s,lk base t=some s->∃y,a'.tmps[t]? =some y/\Den r.1 r.2 s y)/\kC (dz ops []) β r.2/\mQ (dz ops []) a a'/\cx.le r.1) (R:=sP labs)
  (Up:=fun i r1 r2=>r1.1.le r2.1/\∀g,(∀(o:Oper) (d:Nat),ops[i]? =some o->o.dst=some d->g % 1000000≠d)->r2.2 g=r1.2 g) hm ⟨rds,labs.map (fun x=>⟨x.prod,x.cons⟩),anc⟩ (r0:=(cx,β)) ⟨fun t s hl=> ?_,kC.refl _ _,mQ.refl _ _,Cx.le.refl cx⟩ (fun j hj x hx hxj=> ?_) hh.E.size hh.E.defers ?_ hgood ⟨?_,?_,?_⟩ ?_ ?_
 .have h1:=hbase t s hl;obtain⟨y,h2,h3⟩:=hh.E.get t s h1.1;refine⟨y,h2,?_⟩;cases s
  case gd d b z=>exact absurd (hg _ _ _ _ h1.1) (by simp)
  all_goals exact h3
 .obtain⟨q1,q2,q3⟩:=holds x hx;obtain⟨y,h2,h3⟩:=hh.E.get x.d x.v q3;refine⟨y,h2,?_⟩;cases hv:x.v with
  |gd d b z=>rw[hv]at q3;exact absurd (hg _ _ _ _ q3) (by simp)
  |_=>rw[hv]at h3;exact h3
 ·
  have hini:=iJ (cx:=cx) (β:=β) hlen (p:=dG.lu ⟨rds,labs.map (fun x=>⟨x.prod,x.cons⟩),anc⟩) (ids:=List.range rs.length) (ts:=rs) List.nodup_range (fun ℓ=> ?_) ?_
  .have hini':(fZ ⟨rds,labs.map (fun x=>⟨x.prod,x.cons⟩),anc⟩ (sP labs) (cx,β) (dG.lu ⟨rds,labs.map (fun x=>⟨x.prod,x.cons⟩),anc⟩)).Perm (rs.map (Tok.res cx β)):=hini;exact hh.H.perm (hini'.symm.append_right fr)
  .rw[List.mem_range];unfold dG.lu;simp only[hlab];constructor
   .rintro⟨h1,h2⟩;rcases Nat.lt_or_ge ℓ rs.length with h3|h3
    .exact h3
    .exfalso;obtain⟨⟨p,_,h4⟩,_⟩:=hD.gr.new ℓ _ (qB h1) (by simpa using h3);rw[qB h1]at h2;simp only[Option.map_some,h4]at h2;cases h2
   .intro h1;obtain⟨x',h2,h3,h4,_⟩:=hD.gr.old ℓ ⟨rs[ℓ],none,none⟩ (by rw[qY,qB h1];rfl);refine⟨(qE.1 h2).1,?_⟩;rw[h2];simp only[Option.map_some,h4];rfl
  .have key:∀(ts:List Tok) (k:Nat),(∀j t,ts[j]? =some t->At labs (k+j) t)->F2 (At labs) ((List.range ts.length).map (k+ ·)) ts:=by
    intro ts
    induction ts with
    |nil=>intro k _;exact .nil
    |cons t ts ih=>
     intro k hk;rw[qI,List.range_succ_eq_map];show F2 _ ((k+0)::List.map (fun x=>k+x) (List.map Nat.succ (List.range ts.length))) (t::ts);rw[List.map_map];refine .cons (hk 0 t rfl) ?_;have:=ih (k+1) (fun j t' ht=>by have:=hk (j+1) t' (by simpa using ht);rwa[show k+(j+1)=k+1+j by omega]at this);have e:(List.range ts.length).map ((k+ ·)∘Nat.succ)=(List.range ts.length).map (k+1+ ·):=List.map_congr_left fun j _=>by simp only[Function.comp];omega
     rw[e];exact this
   have:=key rs 0 fun j t ht=>by
    obtain⟨x',h2,h3,_⟩:=hD.gr.old j ⟨t,none,none⟩ (by rw[qY,ht];rfl);rw[Nat.zero_add];exact⟨x',h2,h3⟩
   simpa using this
 ·
  rintro i j A o ⟨cx1,β1⟩ ⟨cx2,β2⟩ a1 v ho hA hij hiA ⟨hle,hU⟩ hK x hx hxj
  replace hle:cx1.le cx2:=hle
  replace hU:∀g,(∀(o:Oper) (d:Nat),ops[i]? =some o->o.dst=some d->g % 1000000≠d)->β2 g=β1 g:=hU
  have ho':ops[i]? =some o:=by simpa using ho
  obtain⟨y,h1,h2⟩:=hK x hx hxj
  have hjl:j<ops.length:=by
   unfold dG.good at hgood;simp only[qD,beq_iff_eq]at hgood;have:=(qE.1 hA).1;have h3:=hgood.1.1.2;simp at h3;simp only at this;omega
  obtain⟨oj,A',rd,env',rsR,rsC,rsP,idC,idP,ent,f1,f2,f3,f4,f5,f6,f7,f8,f9,f10⟩:=(hfact j hjl).ex;rw[hA]at f2;injection f2 with f2
  subst f2;obtain⟨g1,g2,g3,g4⟩:=f9 x hx hxj
  have hput:∀{t:Nat} {q:Nat} {oq:Oper},ops[q]? =some oq->oq.dst=some t->q≠i->(a1.put o.dst v).tmps[t]? =a1.tmps[t]? :=fun {t q oq} hq hqt hqi=>by
   cases hd:o.dst with
   |none=>rfl
   |some d=>exact dn a1 v fun e=>hqi ((hdist i o d ho' hd).2 q oq hq (e▸hqt))
  have hnm:∀g∈SV.names x.v [],β2 g=β1 g:=fun g hg=>hU g fun o2 d ho2 hd e=>by
   rw[ho']at ho2;injection ho2 with ho2
   subst ho2;rcases hcls ho' hd (g3 g hg) e with h3|h3
   .exact hij h3
   .exact hiA h3
  refine⟨y,by rw[hput f1 g1 (fun e=>hij e.symm)];exact h1,?_⟩;cases hv:x.v with
  |gd gd b z=>
   rw[hv]at h2 hnm;obtain⟨⟨jg,k1,k2⟩,_⟩:=g4 gd b z hv;unfold bY at k2;rw[mh]at k2;cases hog:ops[jg]? with
   |none=>rw[hog]at k2;cases k2
   |some og=>
    rw[hog]at k2;have hjgi:jg≠i:=fun e=>hiA (e▸k1)
    have e1:=hput hog k2 hjgi;have h3:(a1.tmps[gd]? =some (Value.bool b)->Den cx1 β1 z y)/\(a1.tmps[gd]? ≠some (Value.bool b)->y=undef):=h2;show((a1.put o.dst v).tmps[gd]? =some (Value.bool b)->Den cx2 β2 z y)/\((a1.put o.dst v).tmps[gd]? ≠some (Value.bool b)->y=undef);rw[e1];exact⟨fun hh=>((h3.1 hh).congr fun g hg=>hnm g (by simpa[SV.names]using hg)).le hle,h3.2⟩
  |_=>
   rw[hv]at h2 hnm;exact bO.of ((Den.congr (show Den cx1 β1 _ y from h2) hnm).le hle)
 ·
  rintro i j o ⟨cx1,β1⟩ ⟨cx2,β2⟩ a1 v ho hjl hij ⟨hle,hU⟩ hC x hx hxj
  replace hle:cx1.le cx2:=hle
  replace hU:∀g,(∀(o:Oper) (d:Nat),ops[i]? =some o->o.dst=some d->g % 1000000≠d)->β2 g=β1 g:=hU
  have ho':ops[i]? =some o:=by simpa using ho
  obtain⟨y,h1,h2⟩:=hC x hx hxj;obtain⟨q1,_,_⟩:=holds x hx;obtain⟨oj,_,k1,k2⟩:=kI q1;rw[Nat.sub_zero,hxj]at k1;refine⟨y,?_,((show Den cx1 β1 x.v y from h2).congr fun g hg=>hU g fun o2 d ho2 hd=>hno ho2 hd (hcn g (dH.2 (.inr (gP.2 (.inl ⟨x,hx,hg⟩)))))).le hle⟩;cases hd:o.dst with
  |none=>exact h1
  |some d=>
   rw[dn a1 v (fun e=>hij ((hdist j oj x.d k1 k2).2 i o ho' (by rw[hd,e])))];exact h1
 ·
  rintro i ℓ b ⟨cx1,β1⟩ ⟨cx2,β2⟩ hb hp ⟨hle,hU⟩ w1 F hpF
  replace hle:cx1.le cx2:=hle
  replace hU:∀g,(∀(o:Oper) (d:Nat),ops[i]? =some o->o.dst=some d->g % 1000000≠d)->β2 g=β1 g:=hU
  rw[hlab]at hb;cases hx:labs[ℓ]? with
  |none=>rw[hx]at hb;cases hb
  |some x=>
   rw[hx]at hb;injection hb with hb
   subst hb;unfold sP at hpF |-;rw[hx]at hpF |-;refine Iu hle (sD (fun g hg=>hU g fun o d ho hd e=> ?_) hpF);cases hpr:x.prod with
   |none=>
    have hlt:ℓ<rs.length:=by
     rcases Nat.lt_or_ge ℓ rs.length with h3|h3
     .exact h3
     .obtain⟨⟨p,_,h4⟩,_⟩:=hD.gr.new ℓ x hx (by simpa using h3);rw[hpr]at h4;cases h4
    obtain⟨x',k1,k2,_⟩:=hD.gr.old ℓ ⟨rs[ℓ],none,none⟩ (by rw[qY,qB hlt];rfl);rw[hx]at k1;injection k1 with k1
    subst k1;refine hno ho hd (hcn g (dH.2 (.inr (gP.2 (.inr (kM.2 (.inl ⟨⟨rs[ℓ],none,none⟩,?_,?_⟩))))))) e
    .exact List.mem_map.2 ⟨rs[ℓ],List.getElem_mem hlt,rfl⟩
    .rw[<-k2];exact hg
   |some p=>
    obtain⟨hpi,hpA⟩:=hp p hpr
    have hpl:p<ops.length:=by
     have:=jc hgood (ℓ:=ℓ) (b:=⟨x.prod,x.cons⟩) (by rw[hlab,hx];rfl);unfold gT at this;simp only[hpr,qD]at this;simpa using this.1
    obtain⟨op,A',rd,env',rsR,rsC,rsP,idC,idP,ent,f1,f2,f3,f4,f5,f6,f7,f8,f9,f10⟩:=(hfact p hpl).ex;obtain⟨t,y,q1,q2⟩:=f6.2.1.nU ((f6.2.2 ℓ x hx).1 hpr)
    have htP:x.tok∈rsP:=by
     have:∀{l:List Nat} {m:List Tok},F2 (At labs) l m->ℓ∈l->x.tok∈m:=by
      intro l m hf
      induction hf with
      |nil=>intro hm;simp at hm
      | @cons a1 b1 l1 m1 r1 r2 ih=>
       intro hm;rcases List.mem_cons.1 hm with rfl|hm
       .obtain⟨z,z1,z2⟩:=r1;rw[hx]at z1;injection z1 with z1
        subst z1;simp[z2]
       .exact List.mem_cons_of_mem _ (ih hm)
     exact this f6.2.1 ((f6.2.2 ℓ x hx).1 hpr)
    rcases hcls ho hd (f10 _ htP g hg) e with h3|h3
    .exact hpi h3.symm
    .exact hpA A' f2 h3
 ·
  rintro i hi o A rd ho hA hrd ⟨cx1,β1⟩ a1 w1 R' hB hsz hdf hK hC hI;obtain⟨o',A',rd',env',rsR,rsC,rsP,idC,idP,ent,f1,f2,f3,f4,f5,f6,f7,f8,f9,f10⟩:=(hfact i hi).ex;have ho':ops[i]? =some o:=by simpa using ho
  rw[ho']at f1;injection f1 with f1
  subst f1;rw[hA]at f2;injection f2 with f2
  subst f2;rw[hrd]at f3;injection f3 with f3
  subst f3
  have mR:∀(cx':Cx) (β':Nat->Value),(fZ ⟨rds,labs.map (fun x=>⟨x.prod,x.cons⟩),anc⟩ (sP labs) (cx',β') (dG.dJ rd)).Perm (rsR.map (Tok.res cx' β')):=fun cx' β'=>iJ (cx:=cx') (β:=β') hlen f4.1 (fun ℓ=>⟨fun hq=>by simpa[dG.dJ]using hq.2,fun hq=>⟨by
   obtain⟨t,y,q1,_⟩:=f4.2.nU hq;exact(qE.1 q1).1,by simpa[dG.dJ]using hq⟩⟩) f4.2
  have mC:∀(cx':Cx) (β':Nat->Value),(fZ ⟨rds,labs.map (fun x=>⟨x.prod,x.cons⟩),anc⟩ (sP labs) (cx',β') (dG.bq ⟨rds,labs.map (fun x=>⟨x.prod,x.cons⟩),anc⟩ i)).Perm (rsC.map (Tok.res cx' β')):=fun cx' β'=>iJ (cx:=cx') (β:=β') hlen f5.1 (fun ℓ=>by
   unfold dG.bq;simp only[hlab];constructor
   .rintro⟨h1,h2⟩;rw[qB h1]at h2;exact(f5.2.2 ℓ _ (qB h1)).1 (by simpa using h2)
   .intro hq;obtain⟨t,y,q1,_⟩:=f5.2.1.nU hq;refine⟨(qE.1 q1).1,?_⟩;rw[q1];simpa using(f5.2.2 ℓ y q1).2 hq) f5.2.1
  have mP:∀(cx':Cx) (β':Nat->Value),(fZ ⟨rds,labs.map (fun x=>⟨x.prod,x.cons⟩),anc⟩ (sP labs) (cx',β') (dG.cK ⟨rds,labs.map (fun x=>⟨x.prod,x.cons⟩),anc⟩ i)).Perm (rsP.map (Tok.res cx' β')):=fun cx' β'=>iJ (cx:=cx') (β:=β') hlen f6.1 (fun ℓ=>by
   unfold dG.cK;simp only[hlab];constructor
   .rintro⟨h1,h2⟩;rw[qB h1]at h2;exact(f6.2.2 ℓ _ (qB h1)).1 (by simpa using h2)
   .intro hq;obtain⟨t,y,q1,_⟩:=f6.2.1.nU hq;refine⟨(qE.1 q1).1,?_⟩;rw[q1];simpa using(f6.2.2 ℓ y q1).2 hq) f6.2.1
  have hE:dF cx1 β1 n a1 env':=⟨hsz,hdf,fun t s hl=>by
   rcases f7 t s hl with⟨x,q1,q2,q3,q4⟩|⟨x,q1,q2,q3,q4⟩|q1
   .obtain⟨y,h1,h2⟩:=hK x.i q2 x q1 rfl;exact⟨y,by rw[<-q3];exact h1,by rw[<-q4];exact h2⟩
   .obtain⟨oj,_,k1,k2⟩:=kI (holds x q1).1;rw[Nat.sub_zero]at k1;obtain⟨y,h1,h2⟩:=hC x.i (by simpa using(qE.1 k1).1) q2 x q1 rfl;exact⟨y,by rw[<-q3];exact h1,by rw[<-q4];exact bO.of h2⟩
   .obtain⟨y,h1,h2⟩:=hB.1 t s q1;exact⟨y,h1,bO.of h2⟩⟩
  have hI2:Inv cx1.w0 cx1.F0 w1 ((rsR++rsC).map (Tok.res cx1 β1)++R'):=hI.perm (by
   rw[qZ,qF];exact(mR cx1 β1).append ((mC cx1 β1).append_right R'))
  have hres:=f8 cx1 β1 n R' a1 w1 hE hI2
  have post:∀{x:Value} {w':World},(∃cx' β',cx1.le cx'/\(∀g,(∀d,o.dst=some d->g % 1000000≠d)->β' g=β1 g)/\(∀d v,o.dst=some d->ent=some v->bO cx' β' (a1.put o.dst x) v x)/\Inv cx'.w0 cx'.F0 w' ((rsR++rsP).map (Tok.res cx' β')++R'))->∃r':Cx×(Nat->Value),(cx1.le r'.1/\∀g,(∀(o:Oper) (d:Nat),ops[i]? =some o->o.dst=some d->g % 1000000≠d)->r'.2 g=β1 g)/\(∀q∈ents,q.i=i->∃y,(a1.put o.dst x).tmps[q.d]? =some y/\bO r'.1 r'.2 (a1.put o.dst x) q.v y)/\
    ((∀t s,lk base t=some s->∃y,(a1.put o.dst x).tmps[t]? =some y/\Den r'.1 r'.2 s y)/\kC (dz ops []) β r'.2/\mQ (dz ops []) a (a1.put o.dst x)/\cx.le r'.1)/\
    Inv r'.1.w0 r'.1.F0 w' (fZ ⟨rds,labs.map (fun x=>⟨x.prod,x.cons⟩),anc⟩ (sP labs) r' (dG.dJ rd)++(fZ ⟨rds,labs.map (fun x=>⟨x.prod,x.cons⟩),anc⟩ (sP labs) r' (dG.cK ⟨rds,labs.map (fun x=>⟨x.prod,x.cons⟩),anc⟩ i)++R')):=fun {x w'} ⟨cx',β',hle,p1,p2,p3⟩=>by
   refine⟨(cx',β'),⟨hle,fun g hg=>p1 g fun d hd=>hg o d ho' hd⟩,fun q hq hqi=> ?_,⟨fun t s hl=> ?_,fun g hg hl=> ?_,fun t ht=> ?_,Cx.le.trans hB.2.2.2 hle⟩,p3.perm (by
    rw[qZ,qF];exact((mR cx' β').append ((mP cx' β').append_right R')).symm)⟩
   .obtain⟨g1,g2,_⟩:=f9 q hq hqi;have:=p2 q.d q.v g1 g2;rw[g1]at this |-;exact⟨x,kE a1 x (by rw[hsz];exact(hdist i o q.d ho' g1).1),this⟩
   .obtain⟨y,h1,h2⟩:=hB.1 t s hl;have hb2:=hbase t s hl;refine⟨y,?_,((show Den cx1 β1 s y from h2).congr fun g hg=>p1 g fun d hd=>hno ho' hd (hcn g (dH.2 (.inl ⟨_,kN hl,hg⟩)))).le hle⟩;cases hd:o.dst with
    |none=>exact h1
    |some d=>
     rw[dn a1 x (fun e=> ?_)]
     .exact h1
     .obtain⟨q,hq⟩:=iq (k:=0) ho' hd;rw[<-e,hb2.2]at hq;cases hq
   .rw[<-hB.2.1 g hg hl];exact p1 g fun d hd e=>hg (e▸mK hd (List.mem_of_getElem? ho'))
   .rw[<-hB.2.2.1 t ht];cases hd:o.dst with
    |none=>rfl
    |some d=>exact dn a1 x fun e=>ht (e▸mK hd (List.mem_of_getElem? ho'))
  rcases hres with⟨hw,h1⟩|⟨hw,h1⟩
  .refine .inl ⟨hw,?_⟩;rcases h1 with⟨x,w',h2,h3⟩|⟨w',h2,h3⟩|⟨f,args,h2,h3⟩
   .exact .inl ⟨x,w',h2,post h3⟩
   .exact .inr (.inl ⟨w',h2,post h3⟩)
   .exact .inr (.inr ⟨f,args,h2,h3.mono fun e w' ⟨x,h4,h5⟩=>⟨x,h4,post h5⟩⟩)
  .exact .inr ⟨hw,post h1⟩
 ·
  rintro⟨cx1,β1⟩ a1 w1 hB hsz hdf hK hI;obtain⟨env1,k1,k2⟩:=hD.fin
  have hl2:∀x∈ents,x.i<ops.length:=fun x hx=>by
   rcases hD.e2 x hx with h1|h1
   .simp at h1
   .omega
  refine hQ cx1 env1 _ β1 a1 w1 hB.2.2.2 k1 ⟨⟨hsz,hdf,fun t s hl=> ?_⟩,hI.perm ?_⟩ (fun hany t d b y hl=> ?_) hB.2.1 hB.2.2.1
  .rcases k2 t s hl with⟨x,q1,q2,q3⟩|q1
   .obtain⟨y,h1,h2⟩:=hK x.i (hl2 x q1) x q1 rfl;exact⟨y,by rw[<-q2];exact h1,by rw[<-q3];exact h2⟩
   .obtain⟨y,h1,h2⟩:=hB.1 t s q1;exact⟨y,h1,bO.of h2⟩
  .refine List.Perm.append_right fr (List.Perm.of_eq ?_);have:=ou (f:=fun x=>Tok.res cx1 β1 x.tok) (q:=fun x=>x.cons.isNone) labs;rw[List.map_map];refine Eq.trans ?_ this;unfold fZ;simp only[qV]
   have e1:∀ℓ,dG.isFin ⟨rds,labs.map (fun x=>⟨x.prod,x.cons⟩),anc⟩ ℓ=(match labs[ℓ]? with|some x=>x.cons.isNone|none=>false):=fun ℓ=>by
    unfold dG.isFin;simp only[hlab];cases labs[ℓ]? <;>rfl
   rw[List.filter_congr fun ℓ _=>e1 ℓ];rfl
  .exfalso;rcases k2 t _ hl with⟨x,q1,q2,q3⟩|q1
   .obtain⟨o',A',rd',env',rsR,rsC,rsP,idC,idP,ent,f1,f2,f3,f4,f5,f6,f7,f8,f9,f10⟩:=(hfact x.i (hl2 x q1)).ex;have:=((f9 x q1 rfl).2.2.2 d b y q3).2
    have hno:∀{l:List Oper},fO l=false->∀o∈l,o.guard=none:=by
     intro l
     induction l with
     |nil=>intro _ o ho;simp at ho
     |cons z l ih=>
      intro hz o ho;unfold fO at hz;cases hzg:z.guard with
      |some p=>rw[hzg]at hz;cases hz
      |none=>
       rw[hzg]at hz;rcases List.mem_cons.1 ho with rfl|ho
       .exact hzg
       .exact ih hz o ho
    exact this (hno hany _ (List.mem_of_getElem? f1))
   .have:=hg t d b y (hbase t _ q1).1;simp at this
end
end Go.Tr
