
/- The symbolic machine with calls that leave data which is never written again: later bases. -/
import Derived.Test.YtdpclbjjmhkgiaaNw
import Derived.Test.YtdpclbjjmhkgiaaVV
set_option linter.unusedSimpArgs false
set_option linter.unusedVariables false
namespace Go.Tr
open Go Go.RowKit
universe u
structure Cx.le(cx cx':Cx):Prop where
 inv:∀{w:World} {R:List dF},Inv cx'.w0 cx'.F0 w R→Inv cx.w0 cx.F0 w R
 sl:∀{d:D} {v:Value},iD cx.w0 cx.F0 d v→iD cx'.w0 cx'.F0 d v
 rp:∀{b o:Nat} {ds:List D},mO cx.w0 cx.F0 b o ds→mO cx'.w0 cx'.F0 b o ds
theorem Cx.le.refl(cx:Cx):cx.le cx:=⟨id,id,id⟩
theorem Cx.le.trans{a b c:Cx}(h:a.le b)(k:b.le c):a.le c:=⟨fun x=>h.inv (k.inv x),fun x=>k.sl (h.sl x),fun x=>k.rp (h.rp x)⟩
section
variable {cx cx':Cx}{β β':Nat→Value}{P:Program}{ti:TI}{n:Nat}{a:Act}{env:Ev}{rs:List Tok}{fr:List dF}{w w':World}
mutual
theorem Den.imp(hs:∀{d:D} {v:Value},iD cx.w0 cx.F0 d v→iD cx'.w0 cx'.F0 d v)(hp:∀{b o:Nat} {ds:List D},mO cx.w0 cx.F0 b o ds→mO cx'.w0 cx'.F0 b o ds):∀{s:SV} {v:Value},Den cx β s v→Den cx' β s v
 | .int _ _,v,h| .bool _,v,h| .raw _,v,h| .ptr _ _,v,h| .sl _,v,h| .ep _ _ _ _,v,h| .un,v,h| .nh _ _ _ _,v,h| .np _ _ _ _ _ _ _,v,h| .mp _,v,h| .sx _ _ _ _,v,h| .gd _ _ _,v,h=>by unfold Den at h ⊢;exact h
 | .rsl e xs,v,h=>by unfold Den at h ⊢;exact hs h
 | .rp u x,v,h=>by unfold Den at h ⊢;obtain⟨b,o,e,h1⟩:=h;exact⟨b,o,e,hp h1⟩
 | .nn e xs,v,h=>by unfold Den at h ⊢;exact⟨hs h.1,h.2⟩
 | .agg l,v,h=>by unfold Den at h ⊢;obtain⟨us,e,h1⟩:=h;exact⟨us,e,aA.imp hs hp h1⟩
 | .tup l,v,h=>by unfold Den at h ⊢;obtain⟨us,e,h1⟩:=h;exact⟨us,e,aA.imp hs hp h1⟩
 | .fn f l,v,h=>by unfold Den at h ⊢;obtain⟨us,e,h1⟩:=h;exact⟨us,e,aA.imp hs hp h1⟩
theorem aA.imp(hs:∀{d:D} {v:Value},iD cx.w0 cx.F0 d v→iD cx'.w0 cx'.F0 d v)(hp:∀{b o:Nat} {ds:List D},mO cx.w0 cx.F0 b o ds→mO cx'.w0 cx'.F0 b o ds):∀{l:List SV} {us:List Value},aA cx β l us→aA cx' β l us
 |[],us,h=>by unfold aA at h ⊢;exact h
 |s::l,us,h=>by
  unfold aA at h ⊢;obtain⟨v,vs',h1,h2,h3⟩:=h;exact⟨v,vs',h1,Den.imp hs hp h2,aA.imp hs hp h3⟩
end
theorem Den.le(hl:cx.le cx'){s:SV}{v:Value}(h:Den cx β s v):Den cx' β s v:=Den.imp hl.sl hl.rp h
theorem aA.le(hl:cx.le cx'){l:List SV}{us:List Value}(h:aA cx β l us):aA cx' β l us:=aA.imp hl.sl hl.rp h
theorem dN.le(hl:cx.le cx'){s:SV}{v:Value}(h:dN cx β a s v):dN cx' β a s v:=by
 cases s
 case gd d b x=>
  have h3:(a.tmps[d]? =some (Value.bool b)→Den cx β x v)∧(a.tmps[d]? ≠some (Value.bool b)→v=undef):=h;exact show(a.tmps[d]? =some (Value.bool b)→Den cx' β x v)∧(a.tmps[d]? ≠some (Value.bool b)→v=undef) from⟨fun hh=>(h3.1 hh).le hl,h3.2⟩
 all_goals exact dN.of (Den.le hl (show Den cx β _ v from h))
theorem fZ.le(hl:cx.le cx')(E:fZ cx β n a env):fZ cx' β n a env:=⟨E.size,E.defers,fun t s h=>by
 obtain⟨v,h1,h2⟩:=E.get t s h;exact⟨v,h1,h2.le hl⟩⟩
theorem Qi(hl:cx.le cx'){t:Tok}{F:List Nat}(hp:(Tok.res cx β t).p w F):(Tok.res cx' β t).p w F:=by
 cases t with
 |bT g t cs=>
  obtain⟨b,us,h1,h2,h3⟩:=hp;exact⟨b,us,h1,h2.le hl,h3⟩
 |dat g t s u xs=>
  obtain⟨h0,us,h1,h2⟩:=hp;exact⟨h0,us,h1.le hl,h2⟩
 |_=>exact hp
theorem Fz(hl:cx.le cx'):∀{l:List Tok},F2 (fun r r'=>∀F,dF.p r w F→dF.p r' w F) (l.map (Tok.res cx β)) (l.map (Tok.res cx' β))
 |[]=>.nil
 |t::l=>.cons (fun F hp=>Qi hl hp) (Fz hl)
theorem Inv.le{w0:World}{F0:List Nat}(hl:cx.le cx')(h:Inv w0 F0 w (rs.map (Tok.res cx β)++fr)):Inv w0 F0 w (rs.map (Tok.res cx' β)++fr):=h.rH (Fz hl)
theorem Inv.le2{w0:World}{F0:List Nat}{R:List dF}(hl:cx.le cx')(h:Inv w0 F0 w (R++(rs.map (Tok.res cx β)++fr))):Inv w0 F0 w (R++(rs.map (Tok.res cx' β)++fr)):=by
 have h1:Inv w0 F0 w (rs.map (Tok.res cx β)++(R++fr)):=h.perm (by
  rw[←List.append_assoc,←List.append_assoc];exact List.perm_append_comm.append_right fr)
 exact(h1.rH (Fz hl)).perm (by
  rw[←List.append_assoc,←List.append_assoc];exact List.perm_append_comm.append_right fr)
theorem Inv.base{w0:World}{F0 G:List Nat}{R:List dF}(h:Inv w0 F0 w R)(hs:Sep w R G)(hG:∀b∈G,b∈F0∨w0.heap.size≤b):(Cx.mk w0 F0).le ⟨w,G⟩∧Inv w G w R:=by
 refine⟨⟨fun {w2 R2} h2=> ?_,fun {d v} h2=>h2.at_ h hG,fun {b o ds} h2=>h2.at_ h hG⟩,Inv.start hs⟩;have hsz:w0.heap.size≤w.heap.size:=h.lT.size;have h2c:pU G w w2:=h2.lT;refine⟨⟨h2.lT.os.trans h.lT.os,h2.lT.tape.trans h.lT.tape,h2.lT.output.trans h.lT.output,Nat.le_trans hsz h2.lT.size,fun b hb hn=>(h2c.other b (Nat.lt_of_lt_of_le hb hsz) (fun hm=>by rcases hG b hm with h8|h8;exact hn h8;exact absurd hb (Nat.not_lt.2 h8))).trans (h.lT.other b hb hn)⟩,?_⟩;obtain⟨G2,k1,k2⟩:=h2.sep;refine⟨G2,k1,fun b hb=> ?_⟩;rcases k2 b hb with h3|h3
 ·exact hG b h3
 ·exact .inr (by have:w0.heap.size≤w.heap.size:=hsz;exact Nat.le_trans this h3)
def pE(P:Program)(f:FuncId)(args:List SV)(ts:List Tok)(r:SV)(ts':List Tok):Prop:=bY P f=true∧∀(cx:Cx) (β:Nat→Value) (w:World) (fr:List dF) (vs:List Value),Inv cx.w0 cx.F0 w (ts.map (Tok.res cx β)++fr)→aA cx β args vs→
 Calls P f vs.toArray w fun e w'=>∃v cx' β',e=.returned v∧cx.le cx'∧(∀g,10000≤g→g<10000+ts.length→β' g=β g)∧Den cx' β' r v∧Inv cx'.w0 cx'.F0 w' (ts'.map (Tok.res cx' β')++fr)
theorem aC.g{f:FuncId}{args:List SV}{ts:List Tok}{r:SV}{ts':List Tok}(h:aC P f args ts r ts'):pE P f args ts r ts':=
 ⟨h.1,fun cx β w fr vs hI hd=>(h.2 cx β w fr vs hI hd).mono fun _ _ ⟨v,β',h1,h2,h3,h4⟩=>⟨v,cx,β',h1,Cx.le.refl _,h2,h3,h4⟩⟩
theorem bg.g{f:FuncId}{args:List SV}{r:SV}(h:bg P f args r):pE P f args [] r []:=
 ⟨h.1,fun cx β w fr vs hI hd=>(h.2 cx β w fr vs hI hd).mono fun _ _ ⟨v,h1,h2,h3⟩=>⟨v,cx,β,h1,Cx.le.refl _,fun _ _ _=>rfl,h2,h3⟩⟩
theorem pE.f{f:FuncId}{args:List SV}{ts:List Tok}{r:SV}{ts':List Tok}(h:pE P f args ts r ts')(hp:(GX r&&o9 ts')=true):aC P f args ts r ts':=by
 rw[Bool.and_eq_true]at hp;refine⟨h.1,fun cx β w fr vs hI hd=>(h.2 cx β w fr vs hI hd).mono fun _ w' ⟨v,cx',β',h1,hl,h2,h3,h4⟩=>⟨v,β',h1,h2,EN hp.1 h3,?_⟩⟩;exact hl.inv (h4.rH (oG hp.2))
theorem pE.q{f:FuncId}{args:List SV}{r:SV}(h:pE P f args [] r [])(hp:Bl r=true):bg P f args r:=by
 refine⟨h.1,fun cx β w fr vs hI hd=>(h.2 cx β w fr vs hI hd).mono fun _ w' ⟨v,cx',β',h1,hl,h2,h3,h4⟩=>⟨v,h1,?_,hl.inv h4⟩⟩;have k:=Df (cx':=cx) hp h3;refine k.congr fun g hg=> ?_
 exfalso
 have hn:∀{l:List SV} {q:List Nat},vW l=true→fU l q=q:=by
  intro l
  induction l with
  |nil=>intro q _;rfl
  |cons v l ih=>
   intro q hq;unfold vW at hq;rw[Bool.and_eq_true]at hq;unfold fU;rw[ih hq.2];cases v<;>first|rfl|simp[EY]at hq
 cases r<;>first|(simp[SV.names]at hg;done)|(simp[Bl,EY]at hp;done)|(unfold Bl at hp;unfold SV.names at hg;rw[hn hp]at hg;simp at hg)
def SB(P:Program)(f:FuncId)(args:List SV)(r:SV):Prop:=bY P f=true∧∀(β:Nat→Value) (w:World) (vs:List Value),aA (Cx.now w) β args vs→
 Calls P f vs.toArray w fun e w'=>∃v,e=.returned v∧Ext w w'∧Den ⟨w',List.range w.heap.size⟩ β r v
theorem iD.sub{w:World}{F G:List Nat}{d:D}{v:Value}(h:iD w F d v)(hs:∀b∈G,b∈F):iD w G d v:=by
 obtain⟨bs,h1,h2⟩:=h;exact⟨bs,h1,fun b hb hm=>h2 b hb (hs b hm)⟩
theorem mO.sub{w:World}{F G:List Nat}{b o:Nat}{ds:List D}(h:mO w F b o ds)(hs:∀b∈G,b∈F):mO w G b o ds:=by
 obtain⟨h1,h2,us,h3,bs,h4,h5⟩:=h;exact⟨h1,fun hm=>h2 (hs b hm),us,h3,bs,h4,fun y hy hm=>h5 y hy (hs y hm)⟩
theorem SB.g(hti:gB P ti=true){f:Nat}{args:List SV}{ts:List Tok}{r:SV}(tys:List Nat)(hok:bY P f=true)(h:BZ ti ts args tys fun args'=>SB P f args' r):pE P f args ts r ts:=by
 refine⟨hok,fun cx β w fr vs hI hd=> ?_⟩;obtain⟨l',h1,h2⟩:=uF hti hI h hd;refine(h1.2 β w vs h2).mono ?_;rintro e w' ⟨v,rfl,hx,hd'⟩;obtain⟨G,hs,hG⟩:=hI.sep;have hc:pU [] w w':=pU.tF hx;have hs':Sep w' (ts.map (Tok.res cx β)++fr) G:=hs.keep ⟨hc.size,fun b hb=>hc.other b (hs.lt b hb) (by simp)⟩;obtain⟨hl,hI'⟩:=Inv.base (hI.ext hx) hs' hG;refine⟨v,⟨w',G⟩,β,rfl,hl,fun _ _ _=>rfl,?_,Inv.le hl hI'⟩;have hsub:∀b∈G,b∈List.range w.heap.size:=fun b hb=>List.mem_range.2 (hs.lt b hb)
 exact Den.imp (cx:=⟨w',List.range w.heap.size⟩) (cx':=⟨w',G⟩) (fun h=>h.sub hsub) (fun h=>h.sub hsub) hd'
theorem CJ{u:U}:∀xs:List (El u),(List.flatMap (enc u) xs).length=xs.length*u.size
 |[]=>by simp
 |x::xs=>by rw[List.flatMap_cons,List.length_append,aZ,CJ xs,List.length_cons,Nat.add_mul];omega
theorem Fg:∀(u:U) (x:El u) {cx:Cx} {β:Nat→Value} {us:List Value} {vs:List SV},aA cx β (dJ u x++vs) us→∃u1 u2,us=u1++u2∧kQ cx.w0 cx.F0 (enc u x) u1∧aA cx β vs u2
 | .int k,x,cx,β,us,vs,hd=>by
  unfold dJ aA at hd;obtain⟨v1,vs1,rfl,hd1,hd2⟩:=hd;unfold Den at hd1;subst hd1;exact⟨[_],vs1,rfl,kQ.one (iD.VX rfl),hd2⟩
 | .bool,x,cx,β,us,vs,hd=>by
  unfold dJ aA at hd;obtain⟨v1,vs1,rfl,hd1,hd2⟩:=hd;unfold Den at hd1;subst hd1;exact⟨[_],vs1,rfl,kQ.one (iD.VX rfl),hd2⟩
 | .str,x,cx,β,us,vs,hd=>by
  unfold dJ aA at hd;obtain⟨v1,vs1,rfl,hd1,hd2⟩:=hd;unfold Den at hd1;obtain⟨rfl,h1⟩:=hd1;exact⟨[_],vs1,rfl,kQ.one (iD.VX h1),hd2⟩
 | .any,x,cx,β,us,vs,hd=>by
  unfold dJ aA at hd;obtain⟨v1,vs1,rfl,hd1,hd2⟩:=hd;unfold Den at hd1;obtain⟨rfl,h1⟩:=hd1;exact⟨[_],vs1,rfl,kQ.one (iD.VX h1),hd2⟩
 | .pair a b,x,cx,β,us,vs,hd=>by
  unfold dJ at hd;rw[List.append_assoc]at hd;obtain⟨u1,u2,rfl,h1,h2⟩:=Fg a x.1 hd;obtain⟨u3,u4,rfl,h3,h4⟩:=Fg b x.2 h2;exact⟨u1++u3,u4,by simp,by unfold enc;exact h1.app h3,h4⟩
 | .sl e,x,cx,β,us,vs,hd=>by
  unfold dJ aA at hd;obtain⟨v1,vs1,rfl,hd1,hd2⟩:=hd;unfold Den at hd1;exact⟨[_],vs1,rfl,kQ.one hd1,hd2⟩
 | .tree e,x,cx,β,us,vs,hd=>by
  unfold dJ at hd;rw[List.append_assoc]at hd;obtain⟨u1,u2,rfl,h1,h2⟩:=Fg e x.val hd
  change aA cx β (.rsl (.tree e) x.kids::vs) u2 at h2
  unfold aA at h2;obtain⟨v1,vs1,rfl,hd1,hd2⟩:=h2;unfold Den at hd1;exact⟨u1++[v1],vs1,by simp,by rw[jk];exact h1.app (kQ.one hd1),hd2⟩
theorem LA{u:U}{cx:Cx}{β:Nat→Value}:∀(xs:List (El u)) {us:List Value},aA cx β (List.flatMap (dJ u) xs) us→kQ cx.w0 cx.F0 (List.flatMap (enc u) xs) us
 |[],us,hd=>by unfold List.flatMap aA at hd;subst hd;exact⟨[],TN.done,by simp⟩
 |x::xs,us,hd=>by
  rw[List.flatMap_cons]at hd ⊢;obtain⟨u1,u2,rfl,h1,h2⟩:=Fg u x hd;exact h1.app (LA xs h2)
theorem UW{cx:Cx}{β:Nat→Value}{w:World}{G F:List Nat}{g:Nat}{t s:Nat}{u:U}{xs:List (El u)}(hl:cx.le ⟨w,G⟩)(h:(Tok.res cx β (.dat g t s u xs)).p w F)(hF:∀b∈F,b∉G):iD w G (.sl (List.length (α:=El u) xs) (List.flatMap (enc u) xs)) (β g):=by
 obtain⟨h1,us,h2,h3,bs,us',rfl,hg,_⟩:=h;obtain⟨rfl,rfl⟩:=Qg hg.tn;obtain⟨bs1,k1,k2⟩:=LA xs (h2.le hl);obtain⟨bs',q1,q2⟩:=PU hg.row k1 (by rw[dU,h1]);refine⟨bs',q1,fun b hb=> ?_⟩;rcases List.mem_append.1 (q2 b hb)with hb|hb
 ·exact hF b (by simp[hb])
 ·exact k2 b hb
theorem Sep.get{w:World}:∀{R:List dF} {G:List Nat} {i:Nat} {r:dF},Sep w R G→R[i]? =some r→∃F,r.p w F∧∀b∈F,b∈G
 |[],G,i,r,h,hi=>by simp at hi
 |x::R,G,0,r,⟨F,G',e,h1,h2,h3⟩,hi=>by simp at hi;subst hi;exact⟨F,h1,fun b hb=>by rw[e];exact List.mem_append_left _ hb⟩
 |x::R,G,i+1,r,⟨F,G',e,h1,h2,h3⟩,hi=>by
  obtain⟨F',k1,k2⟩:=Sep.get h2 (i:=i) (by simpa using hi);exact⟨F',k1,fun b hb=>by rw[e];exact List.mem_append_right _ (k2 b hb)⟩
section
variable {G1 G:List Nat}{ts:List Tok}{dt:Bool}
end
end
def MI(u:U):List (List SV)→(List (El u)→Prop)→Prop
 |[],K=>K []
 |c::cs,K=>EG u c fun x l=>match l with|[]=>MI u cs fun xs=>K (x::xs)|_=>False
def OE:List SV→Bool
 |[]=>false
 |v::l=>match v with
  | .rsl _ _=>true
  |_=>OE l
def KM:List (List SV)→Bool
 |[]=>false
 |c::l=>OE c||KM l
def isLit(env:Ev):Op→Bool
 | .buildSlice _ _ ps=>match l9 env none ps.toList 0 with
  |some css=>KM css
  |none=>false
 |_=>false
def XZ(ti:TI)(env:Ev)(op:Op)(K:SV→Prop):Prop:=match op with
 | .buildSlice t m ps=>match l9 env none ps.toList 0,lk ti t with
  |some css,some (.sl _ s u)=>bif Nat.beq css.length m&&(Nat.blt 0 m&&Nat.ble (m*s) 16777216)then MI u css fun xs=>K (.rsl u xs)else False
  |_,_=>False
 |_=>False
section
variable {cx cx':Cx}{β β':Nat→Value}{P:Program}{ti:TI}{n:Nat}{a:Act}{env:Ev}{rs:List Tok}{fr:List dF}{w w':World}{dst:Option Nat}{ty:TypeId}{pos:String}{aft:Array Edge}{gd:Option (Nat×Bool)}
theorem EH{u:U}:∀{css:List (List SV)} {K:List (El u)→Prop},MI u css K→∃xs,K xs∧List.length (α:=El u) xs=css.length∧∀(cx:Cx) (β:Nat→Value) (uss:List (List Value)),F2 (fun cs us=>aA cx β cs us) css uss→kQ cx.w0 cx.F0 (List.flatMap (enc u) xs) uss.flatten∧∀us∈uss,us.length=u.size
 |[],K,h=>⟨[],h,rfl,fun cx β uss hd=>by cases hd;exact⟨⟨[],TN.done,by simp⟩,by simp⟩⟩
 |c::cs,K,h=>by
  unfold MI at h;obtain⟨x,l,h1,h2⟩:=Bb u h;split at h1
  ·obtain⟨xs,h3,h4,h5⟩:=EH (css:=cs) h1;refine⟨x::xs,h3,by simp[h4],fun cx β uss hd=> ?_⟩;cases hd with
   |cons k1 k2=>
    rename_i us uss;obtain⟨u1,u2,rfl,k3,k4⟩:=h2 cx β us k1;unfold aA at k4;subst k4;obtain⟨k5,k6⟩:=h5 cx β uss k2;rw[List.append_nil];refine⟨by rw[List.flatMap_cons,List.flatten_cons];exact k3.app k5,fun us hu=> ?_⟩;rcases List.mem_cons.1 hu with rfl|hu
    ·obtain⟨bs,q1,_⟩:=k3;rw[q1.length,aZ]
    ·exact k6 us hu
  ·exact h1.elim
theorem OL(hti:gB P ti=true){t m e s:Nat}{u:U}(hl:lk ti t=some (.sl e s u)){ps:Array (Nat×Operand)}{css:List (List SV)}(hhE:fZ cx β n a env)(hhH:Inv cx.w0 cx.F0 w (rs.map (Tok.res cx β)++fr))(hp:l9 env none ps.toList 0=some css)(hm:css.length=m)(h0:0<m)(hb:m*s≤16777216){xs:List (El u)}(k2:List.length (α:=El u) xs=css.length)(k3:∀(cx:Cx) (β:Nat→Value) (uss:List (List Value)),F2 (fun cs us=>aA cx β cs us) css uss→kQ cx.w0 cx.F0 (List.flatMap (enc u) xs) uss.flatten∧∀us∈uss,us.length=u.size):
  ∃v w' cx',(execOp a.eval ⟨dst,.buildSlice t m ps,ty,pos,aft,gd⟩).run P w=.ok (.value v) w'∧cx.le cx'∧Den cx' β (.rsl u xs) v∧fZ cx' β n a env∧Inv cx'.w0 cx'.F0 w' (rs.map (Tok.res cx' β)++fr):=by
 obtain⟨vs,uss,h1,h2,h3,h4⟩:=yG hhE (g:=none) (fun d b e=>by cases e) hp;obtain⟨k4,k5⟩:=k3 cx β uss h4;have hus:=(jO hti hl).2.2;have hE:=oL hti hl;have hv:=DW (q:=fun us=>us.length=s) h3 (fun us hu=>(k5 us hu).trans hus);have hvl:vs.length=m:=h2.trans hm
 have hps:(ps.map fun(i,x)=>(i,a.eval x))=(vs.zipIdx.map fun x=>(x.2,x.1)).toArray:=by
  apply Array.toList_inj.1;rw[Array.toList_map];exact h1
 have hfl:uss.flatten.length=m*s:=by
  have:∀{vs:List Value} {uss:List (List Value)},F2 (fun v us=>Value.cells v=List.toArray us∧us.length=s) vs uss→uss.flatten.length=vs.length*s:=by
   intro vs uss h
   induction h with
   |nil=>simp
   |cons h _ ih=>simp[h.2,ih,Nat.add_mul];omega
  rw[this hv,hvl]
 have hpos:=hE.p
 have hml:m≤maxLen:=by
  have:m*1≤m*s:=Nat.mul_le_mul_left m hpos;have:maxLen=9223372036854775807:=rfl;omega
 have hx:Ext w (w.alloc (.cells uss.flatten.toArray e)):=(Below.refl _ _).alloc (Nat.le_refl _) _;obtain⟨G,hs,hG⟩:=hhH.sep;have hc:pU [] w (w.alloc (.cells uss.flatten.toArray e)):=pU.tF hx;have hs':Sep (w.alloc (.cells uss.flatten.toArray e)) (rs.map (Tok.res cx β)++fr) G:=hs.keep ⟨hc.size,fun b hb=>hc.other b (hs.lt b hb) (by simp)⟩;obtain⟨hle,hI⟩:=Inv.base (hhH.ext hx) hs' hG;refine⟨_,_,⟨w.alloc (.cells uss.flatten.toArray e),G⟩,Hz hps (Br hE hvl hb hv w),hle,?_,hhE.le hle,Inv.le hle hI⟩;obtain⟨bs,q1,q2⟩:=k4.at_ hhH hG;unfold Den
 refine⟨w.heap.size::bs,?_,fun b hb=> ?_⟩
 ·rw[k2,hm];unfold T1;refine⟨_,_,rfl,Nat.le_refl _,hml,.inr ⟨h0,w.heap.size,0,uss.flatten,bs,rfl,rfl,iQ (heap_alloc_new w _),?_,q1.lT hc (by simp)⟩⟩;intro j v hj;rw[Nat.zero_add];exact kE (heap_alloc_new w _) (by simpa using hj)
 ·rcases List.mem_cons.1 hb with rfl|hb
  ·intro hm;have:=hs.lt _ hm;omega
  ·exact q2 b hb
theorem Em(hti:gB P ti=true){t m e s:Nat}{u:U}(hl:lk ti t=some (.sl e s u)){ps:Array (Nat×Operand)}{css:List (List SV)}(hhE:fZ cx β n a env)(hhH:Inv cx.w0 cx.F0 w (rs.map (Tok.res cx β)++fr))(hp:l9 env none ps.toList 0=some css)(hm:css.length=m)(h0:0<m)(hb:m*s≤16777216){K:List (El u)→Prop}(h:MI u css K):
  ∃xs,K xs∧∃v w' cx',(execOp a.eval ⟨dst,.buildSlice t m ps,ty,pos,aft,gd⟩).run P w=.ok (.value v) w'∧cx.le cx'∧Den cx' β (.rsl u xs) v∧fZ cx' β n a env∧Inv cx'.w0 cx'.F0 w' (rs.map (Tok.res cx' β)++fr):=by
 obtain⟨xs,k1,k2,k3⟩:=EH h;exact⟨xs,k1,OL hti hl hhE hhH hp hm h0 hb k2 k3⟩
end
end Go.Tr
